import PyProof.Rows.All
import Wide.All
import Open.Line
import OpenK.KWalk
import OpenK.KMore
import OpenK.KDescr
import KE.LcTurns
import KE.IntBitsLaws
import Wide.FinOn
import PySem.Challenge.RW_uf040017_06
set_option autoImplicit false
set_option linter.unusedVariables false
set_option linter.unusedSimpArgs false
set_option Elab.async false
set_option genSizeOf false
set_option genInjectivity false
namespace TC
open PySem PySem.W PyProof.Rows


mutual
noncomputable def flat : PyData → Bool
  | .list _ => false
  | .dict _ => false
  | .tuple xs => flats xs
  | _ => true
noncomputable def flats : List PyData → Bool
  | [] => true
  | x :: xs => flat x && flats xs
end

inductive V where
  | d (x : PyData)
  | own (x : PyData)
  | brw (x : PyData)
  | exc (c : Nat)
  | rg (n : Int)

noncomputable def got {α : Type} (o : Option α) (K : α → Prop) : Prop :=
  match o with
  | some a => K a
  | none => False
theorem Zx {α : Type} {o : Option α} {K : α → Prop} {P : Prop} (w : got o K) (h : ∀ a, o = some a → K a → P) : P := by
  cases o with
  | none => exact w.elim
  | some a => exact h a rfl w
noncomputable def guardO {α : Type} (p : Prop) [Decidable p] (a : α) : Option α := if p then some a else none
noncomputable def rd : V → Option PyData
  | .d x => some x
  | .own x => some x
  | .brw x => some x
  | _ => none
noncomputable def kp : V → Option PyData
  | .d x => some x
  | .own x => some x
  | .brw x => guardO (flat x = true) x
  | _ => none
noncomputable def low (y : PyData) : V := cond (flat y) (.d y) (.brw y)
noncomputable def lists (xss : List (List Int)) : PyData := .list (xss.map fun t => .list (t.map .int))
noncomputable def nmV : V → V
  | .own x => .brw x
  | .brw x => low x
  | v => v
noncomputable def argV : V → Option V
  | .own x => some (.d x)
  | .rg _ => none
  | v => some v
noncomputable def retV : V → Option V
  | .own x => some (.own x)
  | v => (kp v).map .d
noncomputable abbrev retO : V → Option V := retV
noncomputable def keepV (o : Bool) (v : V) : Option V := cond o (retV v) ((kp v).map .d)

theorem WF : ∃ n : Nat, n = 1000000 := ⟨1000000, rfl⟩
noncomputable def lim : Nat := Classical.choose WF
theorem Qk : lim = 1000000 := Classical.choose_spec WF

noncomputable def idxD (xs : List PyData) (i : Int) : Option PyData :=
  if 0 ≤ i ∧ i < lim then xs[i.toNat]? else if i < 0 ∧ -(xs.length : Int) ≤ i ∧ xs.length < lim then xs[(xs.length + i).toNat]? else none
noncomputable def seqOf : PyData → Option (List PyData)
  | .list xs => some xs
  | .tuple xs => some xs
  | _ => none
noncomputable def tupleOf : PyData → Option (List PyData)
  | .tuple xs => some xs
  | _ => none
noncomputable def listOf : PyData → Option (List PyData)
  | .list xs => some xs
  | _ => none
noncomputable def idxV (v : V) (i : Int) : Option V :=
  match v with
  | .brw x => ((seqOf x).bind (idxD · i)).map low
  | .d x => ((seqOf x).bind (idxD · i)).map .d
  | .own x => ((seqOf x).bind (idxD · i)).map .d
  | _ => none
noncomputable def lsV : V → Option (List PyData)
  | .d x => listOf x
  | .own x => listOf x
  | .brw x => (listOf x).bind fun xs => guardO (flats xs = true) xs
  | _ => none
noncomputable def rangeL (n : Int) : List Int := (List.range n.toNat).map fun (i : Nat) => (i : Int)
noncomputable def itemsV (hm : Bool) (v : V) : Option (List V) :=
  match v with
  | .brw x => (seqOf x).map (·.map low)
  | .d x => (seqOf x).map (·.map .d)
  | .own x => (seqOf x).map (·.map .d)
  | .rg n => cond hm none (some ((rangeL n).map fun i => .d (.int i)))
  | _ => none
noncomputable def partsV (v : V) (n : Nat) : Option (List V) :=
  match v with
  | .d (.tuple xs) => guardO (xs.length = n) (xs.map .d)
  | .brw (.tuple xs) => guardO (xs.length = n) (xs.map low)
  | _ => none

noncomputable def intOf : PyData → Option Int
  | .int i => some i
  | _ => none
noncomputable def boolOf : PyData → Option Bool
  | .bool b => some b
  | _ => none
noncomputable def allOf {α : Type} (f : PyData → Option α) : List PyData → Option (List α)
  | [] => some []
  | x :: r => (f x).bind fun a => (allOf f r).map (a :: ·)
noncomputable def ofInts (xs : List Int) : List PyData := xs.map .int
noncomputable def ofTups (xs : List (List Int)) : List PyData := xs.map fun t => .tuple (ofInts t)
noncomputable def tupOf : PyData → Option (List Int)
  | .tuple xs => allOf intOf xs
  | _ => none
noncomputable def intV : V → Option Int
  | .d x => intOf x
  | _ => none
noncomputable def boolV : V → Option Bool
  | .d x => boolOf x
  | _ => none

inductive Op where
  | add | sub | mul | fdiv | mod | eq | ne | lt | le | gt | ge | isin | notin

noncomputable def numW (o : Op) (a b : Int) (K : V → Prop) : Prop :=
  match o with
  | .add => K (.d (.int (a + b)))
  | .sub => K (.d (.int (a - b)))
  | .mul => IntMulOk a b ∧ K (.d (.int (a * b)))
  | .fdiv => (b ≠ 0 ∧ b.natAbs < 1073741824) ∧ K (.d (.int (a.fdiv b)))
  | .mod => b ≠ 0 ∧ K (.d (.int (a.fmod b)))
  | .lt => K (.d (.bool (decide (a < b))))
  | .le => K (.d (.bool (decide (a ≤ b))))
  | .gt => K (.d (.bool (decide (b < a))))
  | .ge => K (.d (.bool (decide (b ≤ a))))
  | .eq => K (.d (.bool (decide (a = b))))
  | .ne => K (.d (.bool (!decide (a = b))))
  | _ => False
noncomputable def shp (x : PyData) : Prop := SeqAt.shaped x = true
noncomputable def tabI (kvs : List (PyData × PyData)) : Option (List Int) := allOf intOf (kvs.map (·.1))
noncomputable def keysV : V → Option (List PyData)
  | .brw (.dict kvs) => (tabI kvs).map ofInts
  | .rg n => some (ofInts (rangeL n))
  | v => lsV v
noncomputable def tabT (kvs : List (PyData × PyData)) : Option (List (List Int)) := allOf tupOf (kvs.map (·.1))
noncomputable def hasKey (x : PyData) (kvs : List (PyData × PyData)) : Option Bool :=
  match x with
  | .int k => (tabI kvs).map fun ks => ks.contains k
  | .tuple t => (allOf intOf t).bind fun k => (tabT kvs).map fun ks => ks.contains k
  | _ => none
noncomputable def inW (x y : PyData) (K : Bool → Prop) : Prop :=
  match y with
  | .dict kvs => got (hasKey x kvs) K
  | y => got (seqOf y) fun ys => shp x ∧ shp y ∧ K (ys.any fun z => PyData.eqv z x)
noncomputable def objW (o : Op) (v w : V) (K : V → Prop) : Prop :=
  match o with
  | .eq => got (rd v) fun x => got (rd w) fun y => shp x ∧ shp y ∧ K (.d (.bool (PyData.eqv x y)))
  | .ne => got (rd v) fun x => got (rd w) fun y => shp x ∧ shp y ∧ K (.d (.bool (!PyData.eqv x y)))
  | .isin => got (rd v) fun x => got (rd w) fun y => inW x y fun b => K (.d (.bool b))
  | .notin => got (rd v) fun x => got (rd w) fun y => inW x y fun b => K (.d (.bool (!b)))
  | .add => got (lsV v) fun xs => got (lsV w) fun ys => xs.length + ys.length < lim ∧ K (.own (.list (xs ++ ys)))
  | .mul => got (lsV v) fun xs => got (intV w) fun k => (0 ≤ k ∧ k < lim ∧ xs.length * k.toNat < lim) ∧ K (.own (.list (List.replicate k.toNat xs).flatten))
  | _ => False
noncomputable def opW (o : Op) (v w : V) (K : V → Prop) : Prop := (intV v).elim (objW o v w K) fun a => (intV w).elim (objW o v w K) fun b => numW o a b K

inductive Ty where
  | int | bool | list | tuple | exc (c : Nat) | valueError
noncomputable def Ty.has : Ty → PyData → Bool
  | .int, .int _ => true
  | .int, .bool _ => true
  | .bool, .bool _ => true
  | .list, .list _ => true
  | .tuple, .tuple _ => true
  | _, _ => false
inductive F1 where
  | len | sum | max | min | list | tuple | sorted | sortedR | int | all | not | isNone | notNone | range | isi (t : Ty)
  | dist
  | rev
inductive F2 where
  | max | min | index
noncomputable def F1.quiet : F1 → Bool
  | .sum => false
  | .max => false
  | .min => false
  | .list => false
  | .tuple => false
  | .sorted => false
  | .sortedR => false
  | .all => false
  | .range => false
  | .dist => false
  | .rev => false
  | _ => true

noncomputable def sortI (xs : List Int) : List Int := xs.mergeSort (fun a b => decide (a ≤ b))
noncomputable def sortT (xs : List (List Int)) : List (List Int) := xs.mergeSort (fun a b => decide (a ≤ b))
noncomputable def maxL : List Int → Option Int
  | [] => none
  | a :: r => some (r.foldl max a)
noncomputable def minL : List Int → Option Int
  | [] => none
  | a :: r => some (r.foldl min a)
noncomputable def isNon : PyData → Bool
  | .none => true
  | _ => false
noncomputable def excIs (t : Ty) (c : Nat) : Option Bool :=
  match t with
  | .valueError => some true
  | .exc k => some (k == 0 || c == k)
  | _ => none
noncomputable def isiV (t : Ty) (v : V) : Option Bool :=
  match v with
  | .exc c => excIs t c
  | v => match t with
    | .exc _ => none
    | .valueError => none
    | t => (rd v).map fun x => t.has x
noncomputable def seqV (v : V) (K : List PyData → Prop) : Prop := got (rd v) fun x => got (seqOf x) K
noncomputable def F1.W (f : F1) (v : V) (K : V → Prop) : Prop :=
  match f with
  | .len => seqV v fun xs => xs.length < lim ∧ K (.d (.int xs.length))
  | .sum => seqV v fun xs => got (allOf intOf xs) fun is => K (.d (.int is.sum))
  | .max => seqV v fun xs => got (allOf intOf xs) fun is => got (maxL is) fun m => K (.d (.int m))
  | .min => seqV v fun xs => got (allOf intOf xs) fun is => got (minL is) fun m => K (.d (.int m))
  | .list => got (keysV v) fun xs => xs.length < lim ∧ K (.own (.list xs))
  | .tuple => got (lsV v) fun xs => xs.length < lim ∧ K (.d (.tuple xs))
  | .sorted => got (rd v) fun x => got (listOf x) fun xs => (allOf intOf xs).elim (got (allOf tupOf xs) fun ts => (ts.length < 64 ∧ ts.Nodup ∧ [] ∉ ts) ∧ K (.own (.list (ofTups (sortT ts))))) fun is => is.length < 64 ∧ K (.own (.list (ofInts (sortI is))))
  | .dist => got (rd v) fun x => got (tupleOf x) fun xs => got (allOf intOf xs) fun is => is.length < 64 ∧ K (.d (.int (is.foldl PyProof.Rows.step_dedup []).length))
  | .rev => got (lsV v) fun xs => xs.length < lim ∧ K (.own (.list xs.reverse))
  | .sortedR => got (rd v) fun x => got (listOf x) fun xs => got (allOf intOf xs) fun is => is.length < 64 ∧ K (.own (.list (ofInts (sortI is).reverse)))
  | .int => got (boolV v) fun b => K (.d (.int (cond b 1 0)))
  | .all => got (rd v) fun x => got (listOf x) fun xs => got (allOf boolOf xs) fun bs => K (.d (.bool (bs.all id)))
  | .not => got (boolV v) fun b => K (.d (.bool (!b)))
  | .isNone => got (rd v) fun x => K (.d (.bool (isNon x)))
  | .notNone => got (rd v) fun x => K (.d (.bool (!isNon x)))
  | .range => got (intV v) fun n => (-(lim : Int) < n ∧ n < lim) ∧ K (.rg n)
  | .isi t => got (isiV t v) fun b => K (.d (.bool b))
noncomputable def F2.W (f : F2) (v w : V) (K : V → Prop) : Prop :=
  match f with
  | .max => got (intV v) fun a => got (intV w) fun b => K (.d (.int (Max.max a b)))
  | .min => got (intV v) fun a => got (intV w) fun b => K (.d (.int (Min.min a b)))
  | .index => False
noncomputable def qW (q hm : Bool) (P : Prop) : Prop := cond (!q && hm) False P
theorem Jj {q hm : Bool} {P : Prop} (h : qW q hm P) : (q = false → hm = false) ∧ P := by
  cases q <;> cases hm <;> first | exact h.elim | exact ⟨(fun _ => rfl), h⟩ | exact ⟨(fun e => nomatch e), h⟩

mutual
inductive E where
  | nm (i : Nat) | k (x : PyData)
  | tup (es : Es) | lst (es : Es) | dic0 | dic1 (k : E)
  | op (o : Op) (a b : E)
  | cmp (a : E) (os : List Op) (es : Es)
  | f1 (f : F1) (a : E) | f2 (f : F2) (a b : E)
  | and (es : Es) | or (es : Es)
  | idx (a i : E) | sfrom (a i : E) | sto (a i : E)
  | call (f : Nat) (es : Es)
  | comp (t : Option Nat) (src : E) (cs : Es) (elt : E)
  | index (a b : E)
  | zcomp (a b : E) (cs : Es) (es : Es)
inductive Es where
  | nil | cons (e : E) (es : Es)
end

noncomputable abbrev Rho := List (Option V)
noncomputable abbrev Call := Bool → Nat → List V → (V → Prop) → (Nat → Prop) → Prop
noncomputable abbrev T := (V → Prop) → Prop

noncomputable def bindT (t : Option Nat) (v : V) (ρ : Rho) (k : Rho → Prop) : Prop :=
  match t with
  | none => k (ρ ++ [some v])
  | some n => got (partsV v n) fun vs => k (ρ ++ vs.map some)
noncomputable def compW (step : Rho → (Option PyData → Prop) → Prop) (t : Option Nat) (ρ : Rho) (K : V → Prop) : List V → List PyData → Prop
  | [], acc => acc.length < lim ∧ K (.own (.list acc))
  | x :: xs, acc => bindT t x ρ fun ρ' => step ρ' fun r => compW step t ρ K xs (r.elim acc fun y => acc ++ [y])
noncomputable def zipL : V → Option (List V)
  | .brw x => (listOf x).map (·.map low)
  | .d x => (listOf x).map (·.map .d)
  | .own x => (listOf x).map (·.map .d)
  | _ => none
noncomputable def atom : PyData → Bool
  | .int _ => true
  | .bool _ => true
  | .none => true
  | .str _ => true
  | _ => false
noncomputable def zcompW (step : Rho → (Option PyData → Prop) → Prop) (ρ : Rho) (K : V → Prop) : List (V × V) → List PyData → Prop
  | [], acc => acc.length < lim ∧ K (.own (.list acc))
  | p :: ps, acc => step (ρ ++ [some p.1, some p.2]) fun r => zcompW step ρ K ps (r.elim acc fun y => acc ++ [y])
noncomputable def ifB (v : V) (a b : Prop) : Prop := got (boolV v) fun c => cond c a b
noncomputable def argAll : List V → Option (List V)
  | [] => some []
  | v :: r => (argV v).bind fun x => (argAll r).map (x :: ·)
noncomputable def keepAll : List V → Option (List PyData)
  | [] => some []
  | v :: r => (kp v).bind fun x => (keepAll r).map (x :: ·)

noncomputable def seqW : List T → (List V → Prop) → Prop
  | [], K => K []
  | t :: ts, K => t fun v => seqW ts fun vs => K (v :: vs)
noncomputable def cmpW : List Op → List T → V → (V → Prop) → Prop
  | [o], [t], v, K => t fun w => opW o v w K
  | o :: os, t :: ts, v, K => t fun w => opW o v w fun r => ifB r (cmpW os ts w K) (K (.d (.bool false)))
  | _, _, _, _ => False
noncomputable def andW : List T → (V → Prop) → Prop
  | [], _ => False
  | [t], K => t fun v => ifB v (K (.d (.bool true))) (K (.d (.bool false)))
  | t :: ts, K => t fun v => ifB v (andW ts K) (K (.d (.bool false)))
noncomputable def orW : List T → (V → Prop) → Prop
  | [], _ => False
  | [t], K => t fun v => ifB v (K (.d (.bool true))) (K (.d (.bool false)))
  | t :: ts, K => t fun v => ifB v (K (.d (.bool true))) (orW ts K)
noncomputable def tstW : List T → Prop → Prop → Prop
  | [], a, _ => a
  | t :: ts, a, b => t fun v => ifB v (tstW ts a b) b
noncomputable def fromW (v : V) (i : Int) (K : V → Prop) : Prop := got (lsV v) fun xs => (0 ≤ i ∧ i < lim ∧ xs.length < lim) ∧ K (.own (.list (xs.drop i.toNat)))
noncomputable def toW (v : V) (i : Int) (K : V → Prop) : Prop := got (lsV v) fun xs => (0 ≤ i ∧ i < lim ∧ xs.length < lim) ∧ K (.own (.list (xs.take i.toNat)))

mutual
noncomputable def wpE (Φ : Call) (hm : Bool) (X : Nat → Prop) : E → Rho → T
  | .nm i, ρ, K => got (ρ[i]?) fun s => got s fun v => K (nmV v)
  | .k x, _, K => K (.d x)
  | .tup es, ρ, K => seqW (wpL Φ hm X es ρ) fun vs => got (keepAll vs) fun xs => K (.d (.tuple xs))
  | .lst es, ρ, K => seqW (wpL Φ hm X es ρ) fun vs => got (keepAll vs) fun xs => K (.own (.list xs))
  | .dic0, _, K => K (.own (.dict []))
  | .dic1 k, ρ, K => wpE Φ hm X k ρ fun w => got (intV w) fun i => K (.own (.dict [(.int i, .bool true)]))
  | .op o a b, ρ, K => wpE Φ hm X a ρ fun v => wpE Φ hm X b ρ fun w => opW o v w K
  | .cmp a os es, ρ, K => wpE Φ hm X a ρ fun v => cmpW os (wpL Φ hm X es ρ) v K
  | .f1 f a, ρ, K => wpE Φ hm X a ρ fun v => qW f.quiet hm (f.W v K)
  | .f2 f a b, ρ, K => wpE Φ hm X a ρ fun v => wpE Φ hm X b ρ fun w => qW false hm (f.W v w K)
  | .and es, ρ, K => andW (wpL Φ hm X es ρ) K
  | .or es, ρ, K => orW (wpL Φ hm X es ρ) K
  | .idx a i, ρ, K => wpE Φ hm X a ρ fun v => wpE Φ hm X i ρ fun w => got (intV w) fun k => got (idxV v k) K
  | .sfrom a i, ρ, K => wpE Φ hm X a ρ fun v => wpE Φ hm X i ρ fun w => got (intV w) fun k => fromW v k K
  | .sto a i, ρ, K => wpE Φ hm X a ρ fun v => wpE Φ hm X i ρ fun w => got (intV w) fun k => toW v k K
  | .index a b, ρ, K => wpE Φ hm X a ρ fun v => got (rd v) fun x => got (listOf x) fun xs => got (allOf intOf xs) fun is => wpE Φ hm X b ρ fun w => got (intV w) fun k => (k ∈ is ∧ is.length < lim) ∧ K (.d (.int (is.idxOf k)))
  | .call f es, ρ, K => seqW (wpL Φ hm X es ρ) fun vs => got (argAll vs) fun us => Φ hm f us K X
  | .comp t src cs elt, ρ, K => wpE Φ hm X src ρ fun v => got (itemsV hm v) fun xs => xs.length < lim ∧
      compW (fun ρ' k => tstW (wpL Φ hm (fun _ => False) cs ρ') (wpE Φ hm (fun _ => False) elt ρ' fun v => got (kp v) fun y => k (some y)) (k none)) t ρ K xs []
  | .zcomp a b cs es, ρ, K => wpE Φ hm X a ρ fun v => wpE Φ hm X b ρ fun w => got (zipL v) fun xs => got (zipL w) fun ys => qW false hm (xs.length < lim ∧
      zcompW (fun ρ' k => tstW (wpL Φ hm (fun _ => False) cs ρ') (seqW (wpL Φ hm (fun _ => False) es ρ') fun vs => got (keepAll vs) fun ys => ys.all atom = true ∧ k (some (.tuple ys))) (k none)) ρ K (xs.zip ys) [])
noncomputable def wpL (Φ : Call) (hm : Bool) (X : Nat → Prop) : Es → Rho → List T
  | .nil, _ => []
  | .cons e es, ρ => wpE Φ hm X e ρ :: wpL Φ hm X es ρ
end

inductive Flow where
  | nxt
  | ret (v : V)
noncomputable abbrev KS := Flow → Rho → Prop
noncomputable abbrev XS := Nat → Rho → Prop
inductive Tgt where
  | one (i : Nat) | many (is : List Nat)
mutual
inductive S where
  | asg (o : Bool) (i : Nat) (e : E)
  | unp (is : List Nat) (e : E)
  | app (i : Nat) (e : E)
  | set (i : Nat) (k v : E)
  | key (i : Nat) (k : E)
  | fz (i : Nat) (s : S)
  | clr (i : Nat)
  | ite (c : E) (a b : Ss)
  | loop (t : Tgt) (src : E) (body : Ss)
  | loopn (t : Tgt) (i : Nat) (body : Ss)
  | whl (c : E) (body : Ss)
  | ret (e : E) | retm (i : Nat)
  | rais (c : Nat)
  | tryx (body : Ss) (c k : Nat) (h : Ss)
  | drop (e : E)
inductive Ss where
  | nil | cons (s : S) (ss : Ss)
end

noncomputable def setD (ρ : Rho) (i : Nat) (v : V) (k : Rho → Prop) : Prop := got (kp v) fun x => k (ρ.set i (some (.d x)))
noncomputable def setAll (ρ : Rho) (k : Rho → Prop) : List Nat → List V → Prop
  | [], [] => k ρ
  | i :: r, v :: vs => got (kp v) fun x => setAll (ρ.set i (some (.d x))) k r vs
  | _, _ => False
noncomputable def bindF (t : Tgt) (v : V) (ρ : Rho) (k : Rho → Prop) : Prop :=
  match t with
  | .one i => setD ρ i v k
  | .many is => got (partsV v is.length) fun vs => setAll ρ k is vs
noncomputable def slotW (ρ : Rho) (i : Nat) (k : V → Prop) : Prop := got (ρ[i]?) fun s => got s k
noncomputable def ownL (u : V) (k : List PyData → Prop) : Prop :=
  match u with
  | .own x => got (listOf x) k
  | _ => False
noncomputable def addKey (x : PyData) (kvs : List (PyData × PyData)) : Option (List (PyData × PyData)) := (hasKey x kvs).map fun b => cond b kvs (kvs ++ [(x, .bool true)])
noncomputable def ownD (u : V) (k : List (PyData × PyData) → Prop) : Prop :=
  match u with
  | .own (.dict kvs) => k kvs
  | _ => False
noncomputable def ownS (ρ : Rho) (i : Nat) (k : List PyData → Prop) : Prop := slotW ρ i fun u => ownL u k
noncomputable def Rho.putL (ρ : Rho) (i : Nat) (xs : List PyData) : Rho := ρ.set i (some (.own (.list xs)))
noncomputable def frzV : V → V
  | .own x => .d x
  | v => v
noncomputable def frz (i : Nat) (ρ : Rho) : Rho := ρ.modify i (·.map frzV)
noncomputable def itemsL (hm : Bool) : V → Option (List V)
  | .brw _ => none
  | v => itemsV hm v
noncomputable def forW (body : V → Rho → KS → Prop) (K : KS) : List V → Rho → Prop
  | [], ρ => K .nxt ρ
  | x :: xs, ρ => body x ρ fun fl ρ' => match fl with
    | .nxt => forW body K xs ρ'
    | .ret v => K (.ret v) ρ'
noncomputable def whlW (test : Rho → T) (body : Rho → KS → Prop) (K : KS) : Nat → Rho → Prop
  | 0, _ => False
  | n + 1, ρ => test ρ fun b => ifB b (body ρ fun fl ρ' => match fl with
    | .nxt => whlW test body K n ρ'
    | .ret v => K (.ret v) ρ') (K .nxt ρ)
noncomputable def okRet : V → Prop
  | .d _ => True
  | .own (.list _) => True
  | _ => False
noncomputable def retmV : V → Option V
  | .exc _ => none
  | .rg _ => none
  | v => retV v

mutual
noncomputable def wpS (Φ : Call) (hm : Bool) : S → Rho → KS → XS → Prop
  | .asg o i e, ρ, K, X => wpE Φ hm (X · ρ) e ρ fun v => got (keepV o v) fun u => K .nxt (ρ.set i (some u))
  | .unp is e, ρ, K, X => wpE Φ hm (X · ρ) e ρ fun v => got (partsV v is.length) fun vs => setAll ρ (K .nxt) is vs
  | .app i e, ρ, K, X => ownS ρ i fun xs => wpE Φ hm (X · ρ) e ρ fun v => got (kp v) fun y => xs.length < lim ∧ K .nxt (ρ.putL i (xs ++ [y]))
  | .set i k v, ρ, K, X => ownS ρ i fun xs => wpE Φ hm (X · ρ) v ρ fun v => wpE Φ hm (X · ρ) k ρ fun w => got (kp v) fun y => got (intV w) fun j => (0 ≤ j ∧ j < xs.length ∧ j < lim) ∧ K .nxt (ρ.putL i (xs.set j.toNat y))
  | .fz i s, ρ, K, X => wpS Φ hm s (frz i ρ) K X
  | .key i k, ρ, K, X => slotW ρ i fun u => ownD u fun kvs => wpE Φ hm (X · ρ) k ρ fun w => got (kp w) fun x => got (addKey x kvs) fun kvs' => kvs.length < lim ∧ K .nxt (ρ.set i (some (.own (.dict kvs'))))
  | .ite c a b, ρ, K, X => wpE Φ hm (X · ρ) c ρ fun v => ifB v (wpSs Φ hm a ρ K X) (wpSs Φ hm b ρ K X)
  | .loop t src body, ρ, K, X => wpE Φ hm (X · ρ) src ρ fun v => got (itemsL hm v) fun xs => xs.length < lim ∧ forW (fun x ρ' k => bindF t x ρ' fun ρ'' => wpSs Φ hm body ρ'' k X) K xs ρ
  | .loopn t i body, ρ, K, X => slotW (frz i ρ) i fun v => got (itemsV hm v) fun xs => xs.length < lim ∧ forW (fun x ρ' k => bindF t x ρ' fun ρ'' => wpSs Φ hm body ρ'' k X) K xs (frz i ρ)
  | .whl c body, ρ, K, X => ∃ n, whlW (fun ρ' => wpE Φ hm (X · ρ') c ρ') (fun ρ' k => wpSs Φ hm body ρ' k X) K n ρ
  | .ret e, ρ, K, X => wpE Φ hm (X · ρ) e ρ fun v => got (retO v) fun u => K (.ret u) ρ
  | .clr i, ρ, K, _ => ownS ρ i fun xs => xs.length < lim ∧ K .nxt (ρ.putL i [])
  | .retm i, ρ, K, _ => slotW ρ i fun u => got (retmV u) fun u' => K (.ret u') ρ
  | .rais c, ρ, _, X => hm = false ∧ X c ρ
  | .tryx body c k h, ρ, K, X => wpSs Φ hm body ρ K fun c' ρ' => (c = 0 ∨ c = c') ∧ hm = false ∧ wpSs Φ true h (ρ'.set k (some (.exc c'))) (fun fl ρ'' => match fl with
      | .nxt => False
      | .ret v => okRet v ∧ K (.ret v) ρ'') (fun _ _ => False)
  | .drop e, ρ, K, X => wpE Φ hm (X · ρ) e ρ fun _ => K .nxt ρ
noncomputable def wpSs (Φ : Call) (hm : Bool) : Ss → Rho → KS → XS → Prop
  | .nil, ρ, K, _ => K .nxt ρ
  | .cons s ss, ρ, K, X => wpS Φ hm s ρ (fun fl ρ' => match fl with
      | .nxt => wpSs Φ hm ss ρ' K X
      | .ret v => K (.ret v) ρ') X
end
structure Fn where
  np : Nat
  ns : Nat
  body : Ss
noncomputable def outK (K : V → Prop) : KS
  | .nxt, _ => K (.d .none)
  | .ret v, _ => K v
noncomputable def wpCall (tab : List Fn) : Nat → Call
  | 0, _, _, _, _, _ => False
  | n + 1, hm, f, vs, K, X => got (tab[f]?) fun fn => (vs.length = fn.np ∧ fn.np ≤ fn.ns) ∧ wpSs (wpCall tab n) hm fn.body (vs.map some ++ List.replicate (fn.ns - fn.np) none) (outK K) (fun c _ => X c)
end TC

namespace TC
open PySem PySem.W PyProof.Rows

noncomputable abbrev AP := Addr → Prop
noncomputable abbrev Keep (h h' : Heap) : Prop := ∀ b o, h.get? b = some o → h'.get? b = some o
noncomputable def Ext (fr : AP) (h h' : Heap) : Prop := ∀ b o, h.get? b = some o → (¬ fr b → h'.get? b = some o) ∧ ∃ sl, h'.get? b = some { o with slots := sl }
theorem Ext.refl (fr : AP) (h : Heap) : Ext fr h h := fun _ o e => ⟨fun _ => e, o.slots, e⟩
theorem Ext.trans {fr : AP} {h₁ h₂ h₃ : Heap} (x : Ext fr h₁ h₂) (y : Ext fr h₂ h₃) : Ext fr h₁ h₃ := fun b o e =>
  ⟨fun hb => (y b o ((x b o e).1 hb)).1 hb, let ⟨_, q⟩ := (x b o e).2; let ⟨sl, q'⟩ := (y b _ q).2; ⟨sl, q'⟩⟩
theorem Ext.of {fr : AP} {h h' : Heap} (k : Keep h h') : Ext fr h h' := fun b o e => ⟨fun _ => k b o e, o.slots, k b o e⟩
theorem Ext.mono {fr fr' : AP} {h h' : Heap} (x : Ext fr h h') (s : ∀ b, fr b → fr' b) : Ext fr' h h' := fun b o e => ⟨fun hb => (x b o e).1 fun q => hb (s b q), (x b o e).2⟩
theorem VJ {h : Heap} {b : Addr} (n : ∀ o, h.get? b ≠ some o) : h.get? b = none := by
  cases q : h.get? b with
  | none => rfl
  | some o => exact absurd q (n o)
theorem JE {α : Type} {x : Option α} {a : α} {P : Prop} (e : x = some a) (n : x = none) : P := by rw [e] at n; cases n
theorem Ext.gone {fr : AP} {h h' : Heap} {b : Addr} (x : Ext fr h h') (e : h'.get? b = none) : h.get? b = none :=
  VJ fun o q => let ⟨_, y⟩ := (x b o q).2; JE y e
noncomputable def NT (o : Obj) : Prop := o.cls = .type "tuple" → ∀ vs n, o.data ≠ .seq vs n
noncomputable def Is (h : Heap) (b : Addr) : Prop := ∃ o, h.get? b = some o ∧ NT o
theorem Is.ext {fr : AP} {h h' : Heap} {b : Addr} (i : Is h b) (x : Ext fr h h') : Is h' b := let ⟨o, e, n⟩ := i; let ⟨_, q⟩ := (x b o e).2; ⟨_, q, n⟩
theorem Is.not_none {h : Heap} {b : Addr} {P : Prop} (i : Is h b) (n : h.get? b = none) : P := let ⟨_, e, _⟩ := i; JE e n
theorem Ext.ns {fr : AP} {h h' : Heap} {a : Addr} {m : Str → Option Value} (x : Ext fr h h') (n : h.Ns a m) : h'.Ns a m :=
  let ⟨o, es, ep, ho, hd, r⟩ := n; let ⟨_, hs⟩ := (x a o ho).2; ⟨_, es, ep, hs, hd, r⟩
theorem Ext.cell {fr : AP} {h h' : Heap} {c : Addr} {v : Option Value} (x : Ext fr h h') (n : h.IsCell c v) : h'.IsCell c v :=
  let ⟨o, ho, hd⟩ := n; let ⟨_, hs⟩ := (x c o ho).2; ⟨_, hs, hd⟩
theorem JW (h : Heap) : h.get? h.objs.size = none := VJ fun _ q => absurd (Heap.lt_size q) (Nat.lt_irrefl _)
theorem JQ (h : Heap) (o : Obj) : Keep h (h.push o) := fun _ _ e => Heap.get?_push_of_some _ e

noncomputable abbrev listObj (vs : Array Value) (n : Nat) : Obj := { cls := .type "list", data := .seq vs n }
noncomputable abbrev tupObj (vs : Array Value) (n : Nat) : Obj := { cls := .type "tuple", data := .seq vs n }
noncomputable abbrev dictObj (es : Array DictEntry) (n : Nat) : Obj := { cls := .type "dict", data := .dict es n }
noncomputable def tupH (ks : List Int) : Int := reduceHash (Builtin.Tuple.tupleHashOf (ks.map hashInt))
structure DictOk (a : Addr) (es : Array DictEntry) (kvs : List (PyData × PyData)) : Prop where
  off : (a == sysModules) = false
  vals : ∀ p ∈ kvs, p.2 = .bool true
  keys : (∃ ks : List Int, kvs.map (·.1) = ofInts ks ∧ es.toList.map (·.hash) = ks.map hashInt ∧ ks.Nodup) ∨ ∃ ks : List (List Int), kvs.map (·.1) = ofTups ks ∧ es.toList.map (·.hash) = ks.map tupH ∧ ks.Nodup
theorem DictOk.nil {a : Addr} (h : (a == sysModules) = false) : DictOk a #[] [] := ⟨h, nofun, .inl ⟨[], rfl, rfl, .nil⟩⟩
mutual
inductive PR (P : AP) (h : Heap) : Value → PyData → Prop
  | non : PR P h .none .none
  | bool (b) : PR P h (.bool b) (.bool b)
  | int (i t) : PR P h (.int i t) (.int i)
  | str (x t) : PR P h (.str x t) (.str x)
  | list {a vs n xs} : ¬ P a → h.get? a = some (listObj vs n) → PRs P h vs.toList xs → PR P h (.ref a) (.list xs)
  | tuple {a vs n xs} : ¬ P a → h.get? a = some (tupObj vs n) → PRs P h vs.toList xs → PR P h (.ref a) (.tuple xs)
  | dict {a es n kvs} : ¬ P a → h.get? a = some (dictObj es n) → PRs P h (es.toList.map (·.key)) (kvs.map (·.1)) → PRs P h (es.toList.map (·.val)) (kvs.map (·.2)) → DictOk a es kvs → PR P h (.ref a) (.dict kvs)
inductive PRs (P : AP) (h : Heap) : List Value → List PyData → Prop
  | nil : PRs P h [] []
  | cons {v vs x xs} : PR P h v x → PRs P h vs xs → PRs P h (v :: vs) (x :: xs)
end
noncomputable def PR.Inv (P : AP) (h : Heap) (v : Value) : PyData → Prop
  | .none => v = .none
  | .bool b => v = .bool b
  | .int i => ∃ t, v = .int i t
  | .str x => ∃ t, v = .str x t
  | .list xs => ∃ a vs n, v = .ref a ∧ ¬ P a ∧ h.get? a = some (listObj vs n) ∧ PRs P h vs.toList xs
  | .tuple xs => ∃ a vs n, v = .ref a ∧ ¬ P a ∧ h.get? a = some (tupObj vs n) ∧ PRs P h vs.toList xs
  | .dict kvs => ∃ a es n, v = .ref a ∧ ¬ P a ∧ h.get? a = some (dictObj es n) ∧ PRs P h (es.toList.map (·.key)) (kvs.map (·.1)) ∧ PRs P h (es.toList.map (·.val)) (kvs.map (·.2)) ∧ DictOk a es kvs
theorem PR.inv {P : AP} {h : Heap} {v : Value} {x : PyData} (r : PR P h v x) : PR.Inv P h v x :=
  PR.rec (motive_1 := fun v x _ => PR.Inv P h v x) (motive_2 := fun _ _ _ => True) rfl (fun _ => rfl) (fun _ t => ⟨t, rfl⟩) (fun _ t => ⟨t, rfl⟩)
    (fun n e r _ => ⟨_, _, _, rfl, n, e, r⟩) (fun n e r _ => ⟨_, _, _, rfl, n, e, r⟩) (fun n e r q d _ _ => ⟨_, _, _, rfl, n, e, r, q, d⟩) trivial (fun _ _ _ _ => trivial) r
noncomputable def PRs.Inv (P : AP) (h : Heap) (vs : List Value) : List PyData → Prop
  | [] => vs = []
  | x :: xs => ∃ v ws, vs = v :: ws ∧ PR P h v x ∧ PRs P h ws xs
theorem PRs.inv {P : AP} {h : Heap} {vs : List Value} {xs : List PyData} (r : PRs P h vs xs) : PRs.Inv P h vs xs :=
  PRs.rec (motive_1 := fun _ _ _ => True) (motive_2 := fun vs xs _ => PRs.Inv P h vs xs) trivial (fun _ => trivial) (fun _ _ => trivial) (fun _ _ => trivial) (fun _ _ _ _ => trivial) (fun _ _ _ _ => trivial) (fun _ _ _ _ _ _ _ => trivial) rfl (fun a b _ _ => ⟨_, _, rfl, a, b⟩) r
noncomputable abbrev Mv (P P' : AP) (h h' : Heap) : Prop := ∀ b o, ¬ P b → h.get? b = some o → ¬ P' b ∧ h'.get? b = some o
theorem PR.move {P P' : AP} {h h' : Heap} (k : Mv P P' h h') {v : Value} {x : PyData} (r : PR P h v x) : PR P' h' v x :=
  PR.rec (motive_1 := fun v x _ => PR P' h' v x) (motive_2 := fun vs xs _ => PRs P' h' vs xs) .non .bool .int .str
    (fun n e _ r => .list (k _ _ n e).1 (k _ _ n e).2 r) (fun n e _ r => .tuple (k _ _ n e).1 (k _ _ n e).2 r) (fun n e _ _ d r q => .dict (k _ _ n e).1 (k _ _ n e).2 r q d) .nil (fun _ _ a b => .cons a b) r
theorem PRs.move {P P' : AP} {h h' : Heap} (k : Mv P P' h h') {v : List Value} {x : List PyData} (r : PRs P h v x) : PRs P' h' v x :=
  PRs.rec (motive_1 := fun v x _ => PR P' h' v x) (motive_2 := fun vs xs _ => PRs P' h' vs xs) .non .bool .int .str
    (fun n e _ r => .list (k _ _ n e).1 (k _ _ n e).2 r) (fun n e _ r => .tuple (k _ _ n e).1 (k _ _ n e).2 r) (fun n e _ _ d r q => .dict (k _ _ n e).1 (k _ _ n e).2 r q d) .nil (fun _ _ a b => .cons a b) r
theorem PR.reads {P : AP} {h : Heap} {v : Value} {x : PyData} (r : PR P h v x) : ∃ as, Reads h v x as :=
  PR.rec (motive_1 := fun v x _ => ∃ as, Reads h v x as) (motive_2 := fun vs xs _ => ∃ as, ReadsAll h vs xs as) ⟨_, .none⟩ (fun b => ⟨_, .bool b⟩) (fun i t => ⟨_, .int i t⟩) (fun x t => ⟨_, .str x t⟩)
    (fun _ e _ ⟨_, r⟩ => ⟨_, .list e rfl rfl r⟩) (fun _ e _ ⟨_, r⟩ => ⟨_, .tuple e rfl rfl r⟩) (fun _ e _ _ _ ⟨_, r⟩ ⟨_, q⟩ => ⟨_, .dict e rfl rfl r q⟩) ⟨_, .nil⟩ (fun _ _ ⟨_, a⟩ ⟨_, b⟩ => ⟨_, .cons a b⟩) r
theorem UV {h : Heap} {b : Addr} {vs : Array Value} {n : Nat} {P : Prop} (i : Is h b) (e : h.get? b = some (tupObj vs n)) : P :=
  let ⟨_, e', nt⟩ := i; absurd rfl (nt (congrArg Obj.cls (Option.some.inj (e'.symm.trans e))) vs n |> fun q => (congrArg (· ≠ _) (congrArg Obj.data (Option.some.inj (e'.symm.trans e)))).mp q)
theorem XX {P P' : AP} {h : Heap} (n : ∀ b, P' b → Is h b) {v : Value} {x : PyData} (r : PR P h v x) : flat x = true → PR P' h v x :=
  PR.rec (motive_1 := fun v x _ => flat x = true → PR P' h v x) (motive_2 := fun vs xs _ => flats xs = true → PRs P' h vs xs) (fun _ => .non) (fun b _ => .bool b) (fun i t _ => .int i t) (fun x t _ => .str x t)
    (fun _ _ _ _ f => nomatch f) (fun _ e _ r f => .tuple (fun q => UV (n _ q) e) e (r f)) (fun _ _ _ _ _ _ _ f => nomatch f) (fun _ => .nil) (fun _ _ a b f => .cons (a (Bool.and_eq_true_iff.mp f).1) (b (Bool.and_eq_true_iff.mp f).2)) r
theorem Wo {P P' : AP} {h : Heap} (n : ∀ b, P' b → Is h b) {vs : List Value} {xs : List PyData} (r : PRs P h vs xs) : flats xs = true → PRs P' h vs xs :=
  PRs.rec (motive_1 := fun v x _ => flat x = true → PR P' h v x) (motive_2 := fun vs xs _ => flats xs = true → PRs P' h vs xs) (fun _ => .non) (fun b _ => .bool b) (fun i t _ => .int i t) (fun x t _ => .str x t)
    (fun _ _ _ _ f => nomatch f) (fun _ e _ r f => .tuple (fun q => UV (n _ q) e) e (r f)) (fun _ _ _ _ _ _ _ f => nomatch f) (fun _ => .nil) (fun _ _ a b f => .cons (a (Bool.and_eq_true_iff.mp f).1) (b (Bool.and_eq_true_iff.mp f).2)) r
theorem PRs.length {P : AP} {h : Heap} {vs : List Value} {xs : List PyData} (r : PRs P h vs xs) : vs.length = xs.length :=
  PRs.rec (motive_1 := fun _ _ _ => True) (motive_2 := fun vs xs _ => vs.length = xs.length) trivial (fun _ => trivial) (fun _ _ => trivial) (fun _ _ => trivial) (fun _ _ _ _ => trivial) (fun _ _ _ _ => trivial) (fun _ _ _ _ _ _ _ => trivial) rfl (fun _ _ _ b => congrArg Nat.succ b) r
theorem PRs.size {P : AP} {h : Heap} {vs : Array Value} {xs : List PyData} (r : PRs P h vs.toList xs) : vs.size = xs.length := by rw [← r.length, Array.length_toList]
theorem PRs.append {P : AP} {h : Heap} {ws : List Value} {ys : List PyData} (q : PRs P h ws ys) {vs : List Value} {xs : List PyData} (r : PRs P h vs xs) : PRs P h (vs ++ ws) (xs ++ ys) :=
  PRs.rec (motive_1 := fun _ _ _ => True) (motive_2 := fun vs xs _ => PRs P h (vs ++ ws) (xs ++ ys)) trivial (fun _ => trivial) (fun _ _ => trivial) (fun _ _ => trivial) (fun _ _ _ _ => trivial) (fun _ _ _ _ => trivial) (fun _ _ _ _ _ _ _ => trivial) q (fun a _ _ b => .cons a b) r
theorem PRs.of {P : AP} {h : Heap} {xs : List PyData} : ∀ {vs : List Value}, vs.length = xs.length → (∀ (k : Nat) v x, vs[k]? = some v → xs[k]? = some x → PR P h v x) → PRs P h vs xs := by
  induction xs with
  | nil => intro vs l _; rw [List.length_eq_zero_iff.mp l]; exact .nil
  | cons x xs ih =>
    intro vs l q
    cases vs with
    | nil => exact nomatch l
    | cons v vs => exact .cons (q 0 v x rfl rfl) (ih (Nat.succ.inj l) fun k => q (k + 1))
theorem PRs.at {P : AP} {h : Heap} {vs : List Value} {xs : List PyData} (r : PRs P h vs xs) : ∀ (k : Nat) v x, vs[k]? = some v → xs[k]? = some x → PR P h v x :=
  PRs.rec (motive_1 := fun _ _ _ => True) (motive_2 := fun vs xs _ => ∀ (k : Nat) v x, vs[k]? = some v → xs[k]? = some x → PR P h v x) trivial (fun _ => trivial) (fun _ _ => trivial) (fun _ _ => trivial) (fun _ _ _ _ => trivial) (fun _ _ _ _ => trivial) (fun _ _ _ _ _ _ _ => trivial)
    (fun _ _ _ e => nomatch e) (fun a _ _ b k => Nat.rec (fun _ _ e1 e2 => Option.some.inj e1 ▸ Option.some.inj e2 ▸ a) (fun k _ => b k) k) r
theorem PRs.get {P : AP} {h : Heap} {vs : List Value} {xs : List PyData} (r : PRs P h vs xs) {k : Nat} {x : PyData} (e : xs[k]? = some x) : ∃ v, vs[k]? = some v ∧ PR P h v x :=
  have lt : k < vs.length := by rw [r.length]; exact (List.getElem?_eq_some_iff.mp e).1
  ⟨_, List.getElem?_eq_getElem lt, r.at k _ x (List.getElem?_eq_getElem lt) e⟩
theorem PRs.get' {P : AP} {h : Heap} {vs : List Value} {xs : List PyData} (r : PRs P h vs xs) {k : Nat} {v : Value} (e : vs[k]? = some v) : ∃ x, xs[k]? = some x ∧ PR P h v x :=
  have lt : k < xs.length := by rw [← r.length]; exact (List.getElem?_eq_some_iff.mp e).1
  ⟨_, List.getElem?_eq_getElem lt, r.at k v _ e (List.getElem?_eq_getElem lt)⟩
theorem PRs.drop {P : AP} {h : Heap} {vs : List Value} {xs : List PyData} (r : PRs P h vs xs) (k : Nat) : PRs P h (vs.drop k) (xs.drop k) :=
  PRs.of (by rw [List.length_drop, List.length_drop, r.length]) fun j v x e1 e2 => r.at (k + j) v x (by rw [← List.getElem?_drop]; exact e1) (by rw [← List.getElem?_drop]; exact e2)
theorem PRs.take {P : AP} {h : Heap} {vs : List Value} {xs : List PyData} (r : PRs P h vs xs) (k : Nat) : PRs P h (vs.take k) (xs.take k) :=
  PRs.of (by rw [List.length_take, List.length_take, r.length]) fun j v x e1 e2 => by
    rw [List.getElem?_take] at e1 e2
    split at e1
    · rw [if_pos ‹_›] at e2; exact r.at j v x e1 e2
    · cases e1
theorem PRs.rep {P : AP} {h : Heap} {vs : List Value} {xs : List PyData} (r : PRs P h vs xs) (k : Nat) : PRs P h (List.replicate k vs).flatten (List.replicate k xs).flatten := by
  induction k with
  | zero => exact .nil
  | succ k ih => rw [List.replicate_succ, List.replicate_succ, List.flatten_cons, List.flatten_cons]; exact PRs.append ih r

theorem NT.list (vs : Array Value) (n : Nat) : NT (listObj vs n) := fun e => absurd (Value.type.inj e) (by decide)
theorem NT.dict (vs : Array DictEntry) (n : Nat) : NT (dictObj vs n) := fun e => absurd (Value.type.inj e) (by decide)
theorem PR.anti {P P' : AP} {h : Heap} {v : Value} {x : PyData} (r : PR P h v x) (s : ∀ b, P' b → P b) : PR P' h v x := r.move fun b _ n e => ⟨fun q => n (s b q), e⟩
theorem PRs.anti {P P' : AP} {h : Heap} {v : List Value} {x : List PyData} (r : PRs P h v x) (s : ∀ b, P' b → P b) : PRs P' h v x := r.move fun b _ n e => ⟨fun q => n (s b q), e⟩
theorem XL {P fr : AP} {h h' : Heap} (x : Ext fr h h') (s : ∀ b, fr b → P b) : Mv P P h h' := fun b o n e => ⟨n, (x b o e).1 fun q => n (s b q)⟩
end TC

namespace TC
open PySem PySem.W PyProof.Rows

noncomputable def All {α : Type} (o : Option α) (P : α → Prop) : Prop := ∀ a, o = some a → P a
theorem All.no {α : Type} {P : α → Prop} : All none P := fun _ e => nomatch e
theorem All.so {α : Type} {P : α → Prop} {a : α} (h : P a) : All (some a) P := fun _ e => Option.some.inj e ▸ h
theorem All.bind {α β : Type} {o : Option α} {f : α → Option β} {P : β → Prop} (h : All o fun a => All (f a) P) : All (o.bind f) P := by
  cases o with
  | none => exact .no
  | some a => exact h a rfl
theorem All.map {α β : Type} {o : Option α} {f : α → β} {P : β → Prop} (h : All o fun a => P (f a)) : All (o.map f) P := by
  cases o with
  | none => exact .no
  | some a => exact .so (h a rfl)
theorem All.imp {α : Type} {o : Option α} {P Q : α → Prop} (h : All o P) (k : ∀ a, P a → Q a) : All o Q := fun a e => k a (h a e)
theorem All.ite {α : Type} {c : Bool} {x : Option α} {P : α → Prop} (h : c = true → All x P) : All (cond c x none) P := by
  cases c with
  | false => exact .no
  | true => exact h rfl
theorem All.cond {α : Type} {c : Bool} {x y : Option α} {P : α → Prop} (h : c = true → All x P) (k : c = false → All y P) : All (cond c x y) P := by
  cases c with
  | false => exact k rfl
  | true => exact h rfl

structure Cx where
  kd : List (Str × NameKind)
  tb : List (Str × Nat)
  nx : Nat
  fns : List (Str × Nat)
  cls : List (Str × Nat)
  cst : List (Str × Int)
  ow : List Nat
noncomputable def Cx.glob (cx : Cx) (x : Str) : Bool := cx.kd.lookup x == some .globalImplicit && x != "__debug__" && x != "__name__"
noncomputable def isVar : Option NameKind → Bool
  | some .local => true
  | some .cell => true
  | some .free => true
  | _ => false
noncomputable def Cx.var (cx : Cx) (x : Str) : Option Nat := cond (x != "__debug__" && isVar (cx.kd.lookup x)) (cx.tb.lookup x) none

inductive EV where
  | name (x : Str) (p : Pos) | const (x : Const) (k : Nat) (p : Pos) | unary (o : UnaryOp) (e : Expr) (p : Pos) | bin (l : Expr) (o : Operator) (r : Expr) (p : Pos) | bool (o : BoolOp) (es : List Expr) (p : Pos)
  | cmp (l : Expr) (os : List CmpOp) (rs : List Expr) (p : Pos) | tuple (es : List Expr) (k : Nat) (p : Pos) | list (es : List Expr) (p : Pos) | dict (ks : List (Option Expr)) (vs : List Expr) (p : Pos) | sub (a i : Expr) (p : Pos)
  | slice (a b d : Option Expr) (p : Pos) | call (f : Expr) (as : List Expr) (kws : List Keyword) (p : Pos) | attr (a : Expr) (m : Str) (p : Pos) | comp (e : Expr) (gs : List Comprehension) (sc : Scope) (p : Pos) | other
noncomputable def view : Expr → EV
  | .Name x p => .name x p
  | .Constant x k p => .const x k p
  | .UnaryOp o e p => .unary o e p
  | .BinOp l o r p => .bin l o r p
  | .BoolOp o es p => .bool o es p
  | .Compare l os rs p => .cmp l os rs p
  | .Tuple es k p => .tuple es k p
  | .List es p => .list es p
  | .Dict ks vs p => .dict ks vs p
  | .Subscript a i p => .sub a i p
  | .Slice a b d p => .slice a b d p
  | .Call f as kws p => .call f as kws p
  | .Attribute a m p => .attr a m p
  | .ListComp e gs sc p => .comp e gs sc p
  | _ => .other
noncomputable def EV.ex (e : Expr) : EV → Expr
  | .name x p => .Name x p
  | .const x k p => .Constant x k p
  | .unary o e p => .UnaryOp o e p
  | .bin l o r p => .BinOp l o r p
  | .bool o es p => .BoolOp o es p
  | .cmp l os rs p => .Compare l os rs p
  | .tuple es k p => .Tuple es k p
  | .list es p => .List es p
  | .dict ks vs p => .Dict ks vs p
  | .sub a i p => .Subscript a i p
  | .slice a b d p => .Slice a b d p
  | .call f as kws p => .Call f as kws p
  | .attr a m p => .Attribute a m p
  | .comp e gs sc p => .ListComp e gs sc p
  | .other => e
theorem JU (e : Expr) : (view e).ex e = e := by cases e <;> rfl

noncomputable def lowOp : Operator → Option Op
  | .Add => some .add
  | .Sub => some .sub
  | .Mult => some .mul
  | .FloorDiv => some .fdiv
  | .Mod => some .mod
  | _ => none
noncomputable def lowCmp : CmpOp → Option Op
  | .Eq => some .eq
  | .NotEq => some .ne
  | .Lt => some .lt
  | .LtE => some .le
  | .Gt => some .gt
  | .GtE => some .ge
  | .In => some .isin
  | .NotIn => some .notin
  | _ => none
noncomputable def lowL (f : Expr → Option E) : List Expr → Option Es
  | [] => some .nil
  | e :: r => (f e).bind fun a => (lowL f r).map fun b => .cons a b
noncomputable def lowCs (f : Expr → Option E) : List CmpOp → List Expr → Option (List Op × Es)
  | [o], [e] => (lowCmp o).bind fun o => (f e).map fun a => ([o], .cons a .nil)
  | o :: o2 :: os, e :: e2 :: es => (lowCmp o).bind fun o => (f e).bind fun a => (lowCs f (o2 :: os) (e2 :: es)).map fun q => (o :: q.1, .cons a q.2)
  | _, _ => none
noncomputable def f1Names : List (Str × F1) := [("len", .len), ("sum", .sum), ("max", .max), ("min", .min), ("list", .list), ("tuple", .tuple), ("sorted", .sorted), ("int", .int), ("all", .all), ("range", .range)]
noncomputable def f2Names : List (Str × F2) := [("max", .max), ("min", .min)]
noncomputable def tyNames : List (Str × Ty) := [("int", .int), ("bool", .bool), ("list", .list), ("tuple", .tuple), ("ValueError", .valueError)]
noncomputable def lowTy (cx : Cx) (x : Str) : Option Ty := (tyNames.lookup x).elim ((cx.cls.lookup x).map .exc) some

noncomputable def relab (kd : List (Str × NameKind)) (names : List (Str × NameKind)) : List (Str × NameKind) :=
  names.map fun p => if p.2 == .free && kd.lookup p.1 == some .cell then (p.1, .cell) else p
noncomputable def nameV : EV → Option Str
  | .name x _ => some x
  | _ => none
noncomputable abbrev asName (e : Expr) : Option Str := nameV (view e)
noncomputable def asNames : List Expr → Option (List Str)
  | [] => some []
  | e :: r => (asName e).bind fun x => (asNames r).map (x :: ·)
noncomputable def tgtNames : EV → Option (Option Nat × List Str)
  | .name x _ => some (none, [x])
  | .tuple es _ _ => (asNames es).map fun l => (some l.length, l)
  | _ => none
noncomputable def freeOf (kd : List (Str × NameKind)) (tb : List (Str × Nat)) (nx : Nat) : List (Str × NameKind) → Option (List (Str × Nat))
  | [] => some []
  | p :: r => cond (p.2 == .free) (cond (kd.lookup p.1 == some .cell || kd.lookup p.1 == some .free) ((tb.lookup p.1).bind fun i => cond (decide (i < nx)) ((freeOf kd tb nx r).map ((p.1, i) :: ·)) none) none) (freeOf kd tb nx r)
noncomputable def Cx.inner (cx : Cx) (sc : Scope) (ts : List Str) : Option Cx :=
  cond (sc.kind == .function && decide (sc.names.map (·.1)).Nodup && decide ts.Nodup && ts.all (fun x => sc.names.lookup x == some .local || sc.names.lookup x == some .cell))
    ((freeOf cx.kd cx.tb cx.nx sc.names).map fun fr => { cx with kd := relab cx.kd sc.names, tb := (ts.zip (List.range' cx.nx ts.length)) ++ fr, nx := cx.nx + ts.length, ow := [] }) none

noncomputable def constV : EV → Option Const
  | .const x _ _ => some x
  | _ => none
noncomputable def isNoneC : Const → Bool
  | .none => true
  | _ => false
noncomputable def intC : Const → Option Int
  | .int i => some i
  | _ => none
noncomputable def isStrC : Const → Bool
  | .str _ => true
  | _ => false
noncomputable def isTrueC : Const → Bool
  | .bool b => b
  | _ => false
noncomputable abbrev asIntC (e : Expr) : Option Int := (constV (view e)).bind intC
noncomputable abbrev isC (p : Const → Bool) (e : Expr) : Bool := (constV (view e)).any p
noncomputable def asTrueKw (k : Keyword) : Option Str := k.arg.bind fun x => cond (isC isTrueC k.value) (some x) none
noncomputable def constD : Const → Option PyData
  | .int i => some (.int i)
  | .str s => some (.str s)
  | .bool b => some (.bool b)
  | .none => some .none
  | _ => none
noncomputable def isOp : CmpOp → Option Bool
  | .Is => some false
  | .IsNot => some true
  | _ => none
noncomputable def lowIs (le : Expr → Option E) (l : Expr) (o : CmpOp) (r : Expr) : Option E := (isOp o).bind fun neg => cond (isC isNoneC r) ((le l).map (.f1 (cond neg .notNone .isNone))) none
noncomputable def lowCmps (le : Expr → Option E) (l : Expr) (os : List CmpOp) (rs : List Expr) : Option E := cond (!lastMarks os rs) ((le l).bind fun a => (lowCs le os rs).map fun q => .cmp a q.1 q.2) none
noncomputable def lowCompare (le : Expr → Option E) (l : Expr) : List CmpOp → List Expr → Option E
  | [o], [r] => cond (isOp o).isSome (lowIs le l o r) (lowCmps le l [o] [r])
  | os, rs => lowCmps le l os rs
noncomputable def lowPow (a b : Option Int) : Option E := a.bind fun a => b.bind fun b => cond (decide (0 < a) && decide (a ≤ 10) && decide (0 ≤ b) && decide (b ≤ 20)) (some (.k (.int (a ^ b.toNat)))) none
noncomputable def isPow : Operator → Bool
  | .Pow => true
  | _ => false
noncomputable def lowBin (le : Expr → Option E) (l : Expr) (o : Operator) (r : Expr) : Option E :=
  cond (isPow o) (lowPow (asIntC l) (asIntC r)) ((lowOp o).bind fun o => (le l).bind fun a => (le r).map fun b => .op o a b)
noncomputable def lowSlice (le : Expr → Option E) (a : Expr) : Option Expr → Option Expr → Option Expr → Option E
  | some i, none, none => (le a).bind fun a => (le i).map fun i => .sfrom a i
  | none, some i, none => (le a).bind fun a => (le i).map fun i => .sto a i
  | _, _, _ => none
noncomputable def lowSub (le : Expr → Option E) (a i : Expr) : EV → Option E
  | .slice i j k _ => lowSlice le a i j k
  | _ => (le a).bind fun a => (le i).map fun i => .idx a i
noncomputable def asSet (cx : Cx) : EV → Option Expr
  | .call f [a] [] _ => (asName f).bind fun g => cond (g == "set" && cx.glob g) (some a) none
  | _ => none
noncomputable def asRev (cx : Cx) : EV → Option Expr
  | .call f [a] [] _ => (asName f).bind fun g => cond (g == "reversed" && cx.glob g) (some a) none
  | _ => none
noncomputable def lowBuilt (le : Expr → Option E) (cx : Cx) (f : Str) : List Expr → List Keyword → Option E
  | [a], [] => (f1Names.lookup f).bind fun g => (asRev cx (view a)).elim ((asSet cx (view a)).elim ((le a).map (.f1 g)) fun b => cond (f == "len") ((le b).map (.f1 .dist)) none) fun b => cond (f == "list") ((le b).map (.f1 .rev)) none
  | [a], [k] => (asTrueKw k).bind fun k => cond (f == "sorted" && k == "reverse") ((le a).map (.f1 .sortedR)) none
  | [a, b], [] => cond (f == "isinstance") ((asName b).bind fun t => cond (cx.glob t) ((lowTy cx t).bind fun t => (le a).map (.f1 (.isi t))) none) ((f2Names.lookup f).bind fun f => (le a).bind fun a => (le b).map fun b => .f2 f a b)
  | _, _ => none
noncomputable def lowCallE (le : Expr → Option E) (cx : Cx) (f : Str) (args : List Expr) (kws : List Keyword) : Option E :=
  cond (cx.glob f) ((cx.fns.lookup f).elim (lowBuilt le cx f args kws) fun k => cond kws.isEmpty ((lowL le args).map (.call k)) none) none
noncomputable def asZip (cx : Cx) : EV → Option (Expr × Expr)
  | .call f [a, b] [] _ => (asName f).bind fun g => cond (g == "zip" && cx.glob g) (some (a, b)) none
  | _ => none
noncomputable def tupV : EV → Option (List Expr)
  | .tuple es _ _ => some es
  | _ => none
noncomputable def lowSrc (le le' : Expr → Option E) (cx : Cx) (iter elt : Expr) (t : Option Nat) (cs : Es) (e : E) : Option E :=
  (asZip cx (view iter)).elim ((le iter).map fun src => .comp t src cs e) fun q => cond (t == some 2) ((le q.1).bind fun a => (le q.2).bind fun b => (tupV (view elt)).bind fun es => cond (decide (es.length < 1000)) ((lowL le' es).map fun es' => .zcomp a b cs es') none) none
noncomputable def lowIndex (le : Expr → Option E) (x : Expr) (m : Str) (c : Bool) : List Expr → Option E
  | [k] => cond (c && m == "index") ((le x).bind fun a => (le k).map fun b => .index a b) none
  | _ => none
noncomputable def lowCalls (le : Expr → Option E) (cx : Cx) (args : List Expr) (kws : List Keyword) (p : Pos) : EV → Option E
  | .name f _ => lowCallE le cx f args kws
  | .attr a m ap => lowIndex le a m (kws.isEmpty && ap.endLine == p.line && (asName a).isSome) args
  | _ => none
noncomputable def lowCompE (le : Cx → Expr → Option E) (cx : Cx) (elt : Expr) (sc : Scope) : List Comprehension → Option E
  | [⟨t, iter, ifs, ia⟩] => cond (ia == 0 && decide (ifs.length ≤ 1)) ((tgtNames (view t)).bind fun tn => (cx.inner sc tn.2).bind fun cx' => (le cx' elt).bind fun e => (lowL (le cx') ifs).bind fun cs => lowSrc (le cx) (le cx') cx iter elt tn.1 cs e) none
  | _ => none
noncomputable def lowDict (le : Expr → Option E) : List (Option Expr) → List Expr → Option E
  | [], [] => some .dic0
  | [some k], [v] => cond (isC isTrueC v) ((le k).map .dic1) none
  | _, _ => none
noncomputable def lowUn (le : Expr → Option E) (e : Expr) : UnaryOp → Option E
  | .Not => (le e).map (.f1 .not)
  | .USub => (asIntC e).map fun i => .k (.int (-i))
  | _ => none
noncomputable def lowBoolE (le : Expr → Option E) (es : List Expr) : BoolOp → Option E
  | .And => (lowL le es).map .and
  | .Or => (lowL le es).map .or
noncomputable def lowV (le : Cx → Expr → Option E) (cx : Cx) : EV → Option E
  | .name x _ => (cx.var x).elim (cond (cx.glob x) ((cx.cst.lookup x).map fun i => .k (.int i)) none) fun i => some (.nm i)
  | .const c _ _ => (constD c).map .k
  | .unary o e _ => lowUn (le cx) e o
  | .bin l o r _ => lowBin (le cx) l o r
  | .bool o es _ => lowBoolE (le cx) es o
  | .cmp l os rs _ => lowCompare (le cx) l os rs
  | .tuple es _ _ => cond (decide (es.length < 1000)) ((lowL (le cx) es).map .tup) none
  | .list es _ => cond (decide (es.length < 1000)) ((lowL (le cx) es).map .lst) none
  | .dict ks vs _ => lowDict (le cx) ks vs
  | .sub a i _ => lowSub (le cx) a i (view i)
  | .call f args kws p => lowCalls (le cx) cx args kws p (view f)
  | .comp elt gens sc _ => lowCompE le cx elt sc gens
  | _ => none
noncomputable def lowE : Nat → Cx → Expr → Option E
  | 0, _, _ => none
  | n + 1, cx, pe => lowV (lowE n) cx (view pe)
theorem Jo (e : Expr) : All (asName e) fun x => ∃ p, e = .Name x p := by
  have h := JU e
  unfold asName
  cases q : view e with
  | name x p => rw [q] at h; exact .so ⟨p, h.symm⟩
  | _ => exact .no
theorem Ur (e : Expr) : All (constV (view e)) fun x => ∃ k p, e = .Constant x k p := by
  have h := JU e
  cases q : view e with
  | const x k p => rw [q] at h; exact .so ⟨k, p, h.symm⟩
  | _ => exact .no
theorem ZFr (x : Const) : All (intC x) fun i => x = .int i := by
  cases x with
  | int i => exact .so rfl
  | _ => exact .no
theorem XV (e : Expr) : All (asIntC e) fun i => ∃ k p, e = .Constant (.int i) k p := .bind fun x h1 i h2 => ZFr x i h2 ▸ Ur e x h1
theorem Xq {p : Const → Bool} {e : Expr} (h : isC p e = true) : ∃ x k q, e = .Constant x k q ∧ p x = true := by
  obtain ⟨x, h1, h2⟩ := (Option.any_eq_true p _).mp h
  obtain ⟨k, q, h3⟩ := Ur e x h1
  exact ⟨x, k, q, h3, h2⟩

noncomputable def lowVars (cx : Cx) : List Expr → Option (List Nat)
  | [] => some []
  | e :: r => (asName e).bind fun x => (cx.var x).bind fun i => (lowVars cx r).map (i :: ·)
noncomputable def lowTgt (cx : Cx) : EV → Option Tgt
  | .name x _ => (cx.var x).map .one
  | .tuple es _ _ => (lowVars cx es).map .many
  | _ => none
noncomputable def unpV : EV → Bool
  | .call .. => true
  | .name .. => true
  | .sub .. => true
  | _ => false
noncomputable def lowSs (f : Stmt → Option S) : List Stmt → Option Ss
  | [] => some .nil
  | s :: r => (f s).bind fun a => (lowSs f r).map fun b => .cons a b
noncomputable def lowAsg (le : Expr → Option E) (cx : Cx) (v : Expr) : EV → Option S
  | .name x _ => (cx.var x).bind fun i => (le v).map fun e => .asg (cx.ow.contains i) i e
  | .tuple ts _ _ => cond (unpV (view v)) ((lowVars cx ts).bind fun is => (le v).map fun e => .unp is e) none
  | .sub a k _ => (asName a).bind fun x => (cx.var x).bind fun i => (le k).bind fun k => cond (isC isTrueC v) (some (.key i k)) ((le v).map fun v => .set i k v)
  | _ => none
noncomputable def ownIn (cx : Cx) : EV → Option Nat
  | .name x _ => cx.var x
  | .sub a _ _ => (asName a).bind cx.var
  | _ => none
noncomputable def ownsIn (cx : Cx) : EV → List Nat
  | .tuple es _ _ => es.filterMap fun e => (ownIn cx (view e)).filter (cx.ow.contains ·)
  | _ => []
noncomputable def fzs : List Nat → S → S
  | [], s => s
  | i :: r, s => .fz i (fzs r s)
noncomputable def ownNm (cx : Cx) : EV → Option Nat
  | .name x _ => (cx.var x).bind fun j => cond (cx.ow.contains j) (some j) none
  | _ => none
noncomputable def lowApp (le : Expr → Option E) (cx : Cx) (i : Nat) (a : Expr) : Option S := (le a).map fun a' => fzs (ownsIn cx (view a)) (.app i a')
noncomputable def lowMeth (le : Expr → Option E) (cx : Cx) (x : Str) (m : Str) : List Expr → Option S
  | [] => cond (m == "clear") ((cx.var x).map .clr) none
  | [a₀] => (cx.var x).bind fun i => cond (m == "append") (lowApp le cx i a₀) none
  | _ => none
noncomputable def lowRecv (le : Expr → Option E) (cx : Cx) (m : Str) (args : List Expr) : EV → Option S
  | .name x _ => lowMeth le cx x m args
  | _ => none
noncomputable def lowExpr2 (le : Expr → Option E) (cx : Cx) (e : Expr) (args : List Expr) (kws : List Keyword) (p : Pos) : EV → Option S
  | .attr a m ap => cond (kws.isEmpty && ap.endLine == p.line) (lowRecv le cx m args (view a)) none
  | .name _ _ => (le e).map .drop
  | _ => none
noncomputable def lowExpr (le : Expr → Option E) (cx : Cx) (e : Expr) : EV → Option S
  | .call f args kws p => lowExpr2 le cx e args kws p (view f)
  | _ => none
noncomputable def ownSrc (cx : Cx) : List Comprehension → List Nat
  | [⟨_, iter, _, _⟩] => (ownNm cx (view iter)).toList
  | _ => []
noncomputable def lowRet (le : Expr → Option E) (cx : Cx) (e : Expr) : EV → Option S
  | .comp _ gs _ _ => (le e).map fun e' => fzs (ownSrc cx gs) (.ret e')
  | .name x _ => (cx.var x).elim ((le e).map .ret) fun i => some (.retm i)
  | _ => (le e).map .ret
noncomputable def lowRaise (cx : Cx) : EV → Option S
  | .call f [a] [] _ => cond (isC isStrC a) ((asName f).bind fun c => cond (cx.glob c) ((cx.cls.lookup c).map .rais) none) none
  | _ => none
noncomputable def lowTry (ls : Stmt → Option S) (cx : Cx) (body : List Stmt) : List ExceptHandler → Option S
  | [.ExceptHandler (some t) (some x) h _] => cond (cx.kd.lookup x == some .local && !h.isEmpty) ((asName t).bind fun c => cond (cx.glob c) ((cx.cls.lookup c).bind fun c => (cx.var x).bind fun k => (lowSs ls body).bind fun b => (lowSs ls h).map fun h => .tryx b c k h) none) none
  | _ => none
noncomputable def lowFor (le : Expr → Option E) (cx : Cx) (iter : Expr) (t : Tgt) (b : Ss) : EV → Option S
  | .name x _ => (cx.var x).map fun i => .loopn t i b
  | _ => (le iter).map fun src => .loop t src b
noncomputable def lowSV (le : Expr → Option E) (ls : Stmt → Option S) (cx : Cx) : Stmt → Option S
  | .Assign [t] v _ => lowAsg le cx v (view t)
  | .Expr e _ => lowExpr le cx e (view e)
  | .If t a b _ => (le t).bind fun t => (lowSs ls a).bind fun a => (lowSs ls b).map fun b => .ite t a b
  | .For t iter body [] _ => (lowTgt cx (view t)).bind fun t => (lowSs ls body).bind fun b => lowFor le cx iter t b (view iter)
  | .While c body [] _ => (le c).bind fun c => (lowSs ls body).map fun b => .whl c b
  | .Return (some e) _ => lowRet le cx e (view e)
  | .Raise (some e) none _ => lowRaise cx (view e)
  | .Try body hs [] [] _ => lowTry ls cx body hs
  | _ => none
noncomputable def lowS : Nat → Cx → Stmt → Option S
  | 0, _, _ => none
  | n + 1, cx, st => lowSV (lowE n cx) (lowS n cx) cx st

noncomputable def slotsOf : List (Str × NameKind) → Nat → List (Str × Nat)
  | [], _ => []
  | p :: r, n => cond (p.2 == .local || p.2 == .cell) ((p.1, n) :: slotsOf r (n + 1)) (slotsOf r n)
noncomputable def fnMatch (fns cls : List (Str × Nat)) (cst : List (Str × Int)) (fn : Fn) (ow : List Nat) (params : Arguments) (scope : Scope) (body : List Stmt) : Option Ss :=
  cond (scope.kind == .function && !scope.isGenerator && !scope.isCoroutine && decide (scope.names.map (·.1)).Nodup && scope.names.all (fun p => p.2 != .free)
    && params.posonlyargs.isEmpty && params.vararg.isNone && params.kwonlyargs.isEmpty && params.kwarg.isNone && params.defaults.isEmpty
    && ((params.args.map fun a => (slotsOf scope.names 0).lookup a.arg) == (List.range fn.np).map some) && (slotsOf scope.names 0).length == fn.ns)
    (lowSs (lowS 40 { kd := scope.names, tb := slotsOf scope.names 0, nx := fn.ns, fns := fns, cls := cls, cst := cst, ow := ow }) body) none
end TC

namespace TC
open PySem PySem.W PyProof.Rows

noncomputable def OwnAt (P : AP) (h : Heap) (a : Addr) : PyData → Prop
  | .list xs => ∃ vs n, h.get? a = some (listObj vs n) ∧ PRs P h vs.toList xs
  | .dict kvs => ∃ es n, h.get? a = some (dictObj es n) ∧ PRs P h (es.toList.map (·.key)) (kvs.map (·.1)) ∧ PRs P h (es.toList.map (·.val)) (kvs.map (·.2)) ∧ DictOk a es kvs
  | _ => False
theorem OwnAt.is {P : AP} {h : Heap} {a : Addr} {x : PyData} (r : OwnAt P h a x) : Is h a := by
  cases x with
  | list xs => exact let ⟨_, _, e, _⟩ := r; ⟨_, e, .list _ _⟩
  | dict kvs => exact let ⟨_, _, e, _⟩ := r; ⟨_, e, .dict _ _⟩
  | _ => exact r.elim
theorem OwnAt.pr {P P' : AP} {h : Heap} {a : Addr} {x : PyData} (r : OwnAt P h a x) (n : ¬ P' a) (s : ∀ b, P' b → P b) : PR P' h (.ref a) x := by
  cases x with
  | list xs => exact let ⟨_, _, e, q⟩ := r; .list n e (q.anti s)
  | dict kvs => exact let ⟨_, _, e, q, q', d⟩ := r; .dict n e (q.anti s) (q'.anti s) d
  | _ => exact r.elim
theorem OwnAt.move {P P' : AP} {h h' : Heap} {a : Addr} {x : PyData} (r : OwnAt P h a x) (k : Mv P P' h h') (ka : ∀ o, h.get? a = some o → h'.get? a = some o) : OwnAt P' h' a x := by
  cases x with
  | list xs => exact let ⟨vs, n, e, q⟩ := r; ⟨vs, n, ka _ e, q.move k⟩
  | dict kvs => exact let ⟨es, n, e, q, q', d⟩ := r; ⟨es, n, ka _ e, q.move k, q'.move k, d⟩
  | _ => exact r.elim

inductive Bare (h : Heap) (e : Addr) : Prop
  | mk (o : Obj) (vs : Array Value) : h.get? e = some o → o.data = .fields vs → vs[2]? = some .none → Bare h e
inductive ExcAt (ca : List Addr) (c : Nat) (h : Heap) (v : Value) : Prop
  | mk (e : Addr) (o : Obj) (vs : Array Value) (C : Addr) : v = .ref e → ca[c]? = some C → h.get? e = some o → o.cls = .ref C → o.dict = none → o.data = .fields vs → ExcAt ca c h v
inductive Trb (h₀ h : Heap) (e : Addr) (fl : Value) (vs : Array Value) : Prop
  | no : fl = .none → vs[1]? = some .none → Trb h₀ h e fl vs
  | at (T : Addr) (oT : Obj) (ts : Array Value) : vs[1]? = some (.ref T) → h₀.get? T = none → T ≠ e → h.get? T = some oT → oT.data = .fields ts → ts[3]? = some fl → Trb h₀ h e fl vs
inductive Fly (h₀ : Heap) (e C : Addr) (fl : Value) (h : Heap) : Prop
  | mk (oe : Obj) (vs : Array Value) : h₀.get? e = none → h.get? e = some oe → oe.cls = .ref C → oe.dict = none → oe.data = .fields vs → vs[2]? = some .none → Trb h₀ h e fl vs → Fly h₀ e C fl h
theorem Fly.back {fr : AP} {h₀ h₁ h : Heap} {e C : Addr} {fl : Value} (x : Fly h₁ e C fl h) (k : Ext fr h₀ h₁) : Fly h₀ e C fl h := by
  obtain ⟨oe, vs, n, h1, h2, h3, h4, h5, h6⟩ := x
  refine ⟨oe, vs, k.gone n, h1, h2, h3, h4, h5, ?_⟩
  cases h6 with
  | no a b => exact .no a b
  | «at» T oT ts q1 q2 q3 => exact .at T oT ts q1 (k.gone q2) q3 ‹_› ‹_› ‹_›

structure Gl where
  prog : Program
  w : World
  K : Frag
  B : Heap
  p : Program
  loose : List Str
  mean : ExcName → Option Value
  mg : Str → Option Value
  mb : Str → Option Value
  fns : List (Str × Nat)
  fa : List Addr
  cls : List (Str × Nat)
  ca : List Addr
  cst : List (Str × Int)
  tab : List Fn

noncomputable def usedNames : List Str := ["len", "sum", "max", "min", "list", "tuple", "sorted", "set", "int", "all", "isinstance", "range", "zip", "reversed", "bool", "ValueError"]
noncomputable def bmV : List Value := [.type "ValueError", .type "Exception", .type "BaseException", .type "object"]
noncomputable def ownOk1 (K : Frag) (C : Addr) : Bool :=
  findIn K (.ref C) "__getattribute__" == some (some (.builtin "BaseException.__getattribute__")) && findIn K (.ref C) "__getattr__" == some none && mroIn K C (.type "BaseException") == some true && (clsIn K C).isSome && findIn K (.ref C) "__class__" == some (some (.builtin "object.__class__")) && specialIn K (.builtin "object.__class__") "__get__" == some (some (.builtin "getset_descriptor.__get__"))
    && takesIn K (.builtin "object.__class__") == some true && mroIn K C (.type "object") == some true && mroIn K C (.type "ValueError") == some true && typeIn K (.ref C) == some (.type "type")
structure Gl.Ok (G : Gl) : Prop where
  inK : G.K.In G.B
  top : Top G.p G.loose G.mean G.mg G.mb G.B
  fnm : ∀ x k, G.fns.lookup x = some k → ∃ a, G.fa[k]? = some a ∧ nsIn G.K mainGlobals x = some (some (.ref a))
  cnm : ∀ x k, G.cls.lookup x = some k → ∃ a, G.ca[k]? = some a ∧ nsIn G.K mainGlobals x = some (some (.ref a))
  cnst : ∀ x i, G.cst.lookup x = some i → ∃ t, nsIn G.K mainGlobals x = some (some (.int i t))
  bnm : ∀ x ∈ usedNames, nsIn G.K mainGlobals x = some none
  fok : ∀ (k : Nat) a, G.fa[k]? = some a → ∃ (d : DefRec) (fn : Fn) (ow : List Nat), d ∈ recsOf G.p ∧ nsIn G.K mainGlobals d.name = some (some (.ref a)) ∧ G.tab[k]? = some fn ∧ fnMatch G.fns G.cls G.cst fn ow d.params d.scope d.body = some fn.body
    ∧ ∀ (pm code doc : Value) (vals : List Value), vals.length = fn.np → bindArgs (Calls.docDef d.name d.params d.body d.scope pm code doc) ⟨vals, []⟩ = pure ((d.params.args.map (·.arg)).zip vals)
  cok : ∀ (c : Nat) C, G.ca[c]? = some C → ownOk1 G.K C = true
  csub : ∀ (c : Nat) C (c' : Nat) C', G.ca[c]? = some C → G.ca[c']? = some C' → mroIn G.K C (.ref C') = some (c' == 0 || c == c')
  cown : ∀ (c : Nat) C, G.ca[c]? = some C → ∃ x, OwnCls x C bmV "ValueError.__new__" G.mg G.B

noncomputable def varAt (env : Env) (h : Heap) (x : Str) (v : Value) : Prop :=
  (env.kindOf x = some .local ∧ ∃ m, h.Ns env.locals m ∧ m x = some v) ∨ ((env.kindOf x = some .cell ∨ env.kindOf x = some .free) ∧ ∃ c, env.cells.lookup x = some c ∧ h.IsCell c (some v))
theorem varAt.ext {env : Env} {h h' : Heap} {x : Str} {v : Value} {fr : AP} (y : varAt env h x v) (e : Ext fr h h') : varAt env h' x v :=
  y.imp (fun ⟨k, m, n, q⟩ => ⟨k, m, e.ns n, q⟩) fun ⟨k, c, n, q⟩ => ⟨k, c, n, e.cell q⟩

structure Cf where
  G : Gl
  dep : Nat
  cx : Cx
  env : Env
  hm : Bool
  A : Around
  envs : List Env
  hid : AP
  ρ : Rho
  b : Shared
  X : Nat → Prop
  E : Value → Shared → Prop
noncomputable def frOf (envs : List Env) : AP := fun b => b ∈ envs.filterMap (·.frame)
noncomputable abbrev Cf.fr (c : Cf) : AP := frOf c.envs
noncomputable abbrev Cf.M (c : Cf) : Model := model c.G.prog c.G.w
noncomputable abbrev Cf.wp {α : Type} (c : Cf) (m : Sem α) (Q : α → Shared → Prop) (s : Shared) : Prop := wpAny c.M c.A m Q c.E s
noncomputable abbrev also (P : AP) (a : Addr) : AP := fun b => b = a ∨ P b

noncomputable def VR (ca : List Addr) (hb : Heap) (hid fr : AP) (h : Heap) (v : Value) : V → Prop
  | .d x => PR hid h v x
  | .brw x => PR fr h v x
  | .own x => ∃ a, v = .ref a ∧ hb.get? a = none ∧ OwnAt (also hid a) h a x
  | .exc k => ExcAt ca k h v
  | .rg n => ∃ r t1 t2 t3, v = .ref r ∧ ¬ fr r ∧ (-(lim : Int) < n ∧ n < lim) ∧ IsRange h r 0 n 1 t1 t2 t3
noncomputable abbrev Cf.R (c : Cf) (s : Shared) (v : Value) (u : V) : Prop := VR c.G.ca c.b.heap c.hid c.fr s.heap v u

theorem Bare.ext {h h' : Heap} {a : Addr} {fr : AP} (x : Bare h a) (e : Ext fr h h') : Bare h' a := by
  obtain ⟨o, vs, h1, h2, h3⟩ := x
  obtain ⟨_, q⟩ := (e a o h1).2
  exact ⟨_, vs, q, h2, h3⟩
noncomputable def HOk (hm : Bool) (A : Around) (h : Heap) : Prop := (hm = false ∧ A.handled = none) ∨ (hm = true ∧ ∃ e, A.handled = some (.ref e) ∧ Bare h e)
theorem HOk.ext {hm : Bool} {A : Around} {h h' : Heap} {fr : AP} (x : HOk hm A h) (e : Ext fr h h') : HOk hm A h' :=
  x.imp_right fun ⟨x, a, y, z⟩ => ⟨x, a, y, z.ext e⟩
structure Stk (c : Cf) (h : Heap) : Prop where
  frames : c.A.frames = some c.envs
  funs : h.FunFrames c.G.B c.envs
  base : c.G.B.StaysIn h
noncomputable def Same (s s' : Shared) : Prop := s'.gens = s.gens ∧ s'.os = s.os
theorem Same.refl (s : Shared) : Same s s := ⟨rfl, rfl⟩
theorem Same.trans {a b c : Shared} (x : Same a b) (y : Same b c) : Same a c := ⟨y.1.trans x.1, y.2.trans x.2⟩
theorem Same.mk' {a b c : Shared} (x : Same a b) (y : Same a c) : Same b c := ⟨y.1.trans x.1.symm, y.2.trans x.2.symm⟩
structure AtC (c : Cf) (s : Shared) : Prop where
  stk : Stk c s.heap
  hok : HOk c.hm c.A s.heap
  dom : ∀ b, c.hid b → Is s.heap b
  ext : Ext c.fr c.b.heap s.heap
  same : Same c.b s
structure At (c : Cf) (s : Shared) : Prop extends AtC c s where
  envr : ∀ x i, c.cx.tb.lookup x = some i → ∀ u, c.ρ[i]? = some (some u) → ∃ v, varAt c.env s.heap x v ∧ c.R s v (nmV u)
  cok : ∀ x a, c.env.cells.lookup x = some a → ∃ o, s.heap.get? a = some o
noncomputable def Raised (c : Cf) (e : Addr) (k : Nat) (h' : Heap) : Prop := ∃ C, c.G.ca[k]? = some C ∧ Fly c.b.heap e C .none h' ∧ Ext c.fr c.b.heap h'
structure WfC (c : Cf) : Prop where
  ok : c.G.Ok
  depth : c.A.depth + c.dep ≤ 900
  units : c.A.units + 20 * c.dep ≤ 9000
  sub : ∀ b, c.fr b → c.hid b
  dom0 : ∀ b, c.hid b → Is c.b.heap b
  thr : ∀ e s' k, Raised c e k s'.heap → Same c.b s' → c.X k → c.E (.ref e) s'
structure EnvOk (G : Gl) (cx : Cx) (env : Env) : Prop where
  kind : env.scope.kind = .function
  names : env.scope.names = cx.kd
  glob : env.globals = mainGlobals
  bns : env.builtins = builtinsNs
  fns : cx.fns = G.fns
  cls : cx.cls = G.cls
  cst : cx.cst = G.cst
  cells : ∀ x, (cx.kd.lookup x = some .cell ∨ cx.kd.lookup x = some .free) → ∃ c, env.cells.lookup x = some c
  nocd : ∀ x, cx.kd.lookup x = some .free → (x == ("__classdict__" : Str)) = false
structure Wf (c : Cf) : Prop extends WfC c where
  envok : EnvOk c.G c.cx c.env
  len : c.ρ.length = c.cx.nx
noncomputable abbrev Fin (c : Cf) (s : Shared) (K : V → Prop) (Q : Value → Shared → Prop) : Prop := ∀ v s' u, At c s' → Ext c.fr s.heap s'.heap → c.R s' v u → K u → Q v s'
noncomputable abbrev FinB (c : Cf) (s : Shared) (K : V → Prop) (Q : Bool → Shared → Prop) : Prop := ∀ b s', At c s' → Ext c.fr s.heap s'.heap → K (.d (.bool b)) → Q b s'
noncomputable def OkE (c : Cf) (pe : Expr) (e : E) : Prop := ∀ s K Q, At c s → wpE (wpCall c.G.tab c.dep) c.hm c.X e c.ρ K → Fin c s K Q → c.wp (eval pe c.env) Q s
noncomputable def OkT (c : Cf) (pe : Expr) (e : E) : Prop := ∀ s K Q, At c s → wpE (wpCall c.G.tab c.dep) c.hm c.X e c.ρ K → (∀ u, K u → ∃ b, u = .d (.bool b)) → FinB c s K Q → c.wp (isTrue pe c.env (eval pe c.env)) Q s
end TC

namespace TC
open PySem PySem.W PyProof.Rows

section
variable {c : Cf} {s s' : Shared} {v : Value} {u : V} {x : PyData} {xs : List PyData} {K : V → Prop} {Q : Value → Shared → Prop}
theorem JX {α : Type} {p : Prop} [Decidable p] {a b : α} (e : guardO p a = some b) : p ∧ a = b := by
  unfold guardO at e; split at e
  · exact ⟨‹_›, Option.some.inj e⟩
  · cases e
theorem WfC.new_hid (W : WfC c) {a : Addr} (n : c.b.heap.get? a = none) : ¬ c.hid a := fun q => (W.dom0 a q).not_none n
theorem WfC.new_fr (W : WfC c) {a : Addr} (n : c.b.heap.get? a = none) : ¬ c.fr a := fun q => W.new_hid n (W.sub a q)
theorem ExcAt.ext {ca : List Addr} {k : Nat} {h h' : Heap} {fr : AP} (r : ExcAt ca k h v) (x : Ext fr h h') : ExcAt ca k h' v := by
  obtain ⟨e, o, vs, C, h1, h2, h3, h4, h5, h6⟩ := r
  obtain ⟨_, q⟩ := (x e o h3).2
  exact ⟨e, _, vs, C, h1, h2, q, h4, h5, h6⟩
theorem WfC.R (W : WfC c) (r : c.R s v u) (x : Ext c.fr s.heap s'.heap) : c.R s' v u := by
  cases u with
  | d y => exact PR.move (XL x W.sub) r
  | brw y => exact PR.move (XL x fun _ b => b) r
  | own y =>
    obtain ⟨a, e, n, r⟩ := r
    exact ⟨a, e, n, r.move (XL x fun b q => .inr (W.sub b q)) fun o q => (x a o q).1 (W.new_fr n)⟩
  | exc k => exact ExcAt.ext r x
  | rg n =>
    obtain ⟨a, t1, t2, t3, e, n, l, r⟩ := r
    exact ⟨a, t1, t2, t3, e, n, l, (x a _ r).1 n⟩
theorem Stk.ext {h h' : Heap} (S : Stk c h) (x : Ext c.fr h h') : Stk c h' :=
  ⟨S.frames, S.funs.of_keeps fun b o q _ => let ⟨_, y⟩ := (x b o q).2; ⟨_, y, rfl⟩, fun b o e => (x b o (S.base b o e)).1 fun q => JE e (S.funs.mem q).1⟩
theorem AtC.go (a : AtC c s) (x : Ext c.fr s.heap s'.heap) (m : Same s s') : AtC c s' := ⟨a.stk.ext x, a.hok.ext x, fun b q => (a.dom b q).ext x, a.ext.trans x, a.same.trans m⟩
theorem WfC.go (W : WfC c) (a : At c s) (x : Ext c.fr s.heap s'.heap) (m : Same s s') : At c s' :=
  ⟨a.toAtC.go x m, fun y i hy u hu => let ⟨v, h1, h2⟩ := a.envr y i hy u hu; ⟨v, h1.ext x, W.R h2 x⟩, fun y b e => let ⟨o, q⟩ := a.cok y b e; let ⟨_, q'⟩ := (x b o q).2; ⟨_, q'⟩⟩
theorem WfC.keep (W : WfC c) (a : AtC c s) (r : c.R s v u) : All (kp u) (PR c.hid s.heap v) := by
  cases u with
  | d y => exact .so r
  | brw y => exact fun z e => (JX e).2 ▸ XX a.dom r (JX e).1
  | own y => exact .so (let ⟨_, e, n, r⟩ := r; e ▸ r.pr (W.new_hid n) fun _ q => .inr q)
  | _ => exact .no
theorem WfC.rdf (W : WfC c) (r : c.R s v u) : All (rd u) (PR c.fr s.heap v) := by
  cases u with
  | d y => exact .so (PR.anti r W.sub)
  | brw y => exact .so r
  | own y => exact .so (let ⟨_, e, n, r⟩ := r; e ▸ r.pr (W.new_fr n) fun b q => .inr (W.sub b q))
  | _ => exact .no
inductive IsL (P : AP) (h : Heap) (v : Value) (xs : List PyData) : Prop
  | mk (a : Addr) (vs : Array Value) (n : Nat) : v = .ref a → h.get? a = some (listObj vs n) → PRs P h vs.toList xs → IsL P h v xs
theorem QR (x : PyData) : All (listOf x) fun xs => x = .list xs := by
  cases x with
  | list ys => exact .so rfl
  | _ => exact .no
theorem PR.isL {P : AP} {h : Heap} (r : PR P h v x) (e : listOf x = some xs) : IsL P h v xs := by
  rw [QR x xs e] at r
  obtain ⟨a, vs, n, h1, _, h2, h3⟩ := r.inv
  exact ⟨a, vs, n, h1, h2, h3⟩
theorem WfC.ls (W : WfC c) (a : AtC c s) (r : c.R s v u) : All (lsV u) (IsL c.hid s.heap v) := by
  cases u with
  | d y => exact fun xs e => PR.isL r e
  | own y => exact fun xs e => PR.isL (W.keep a r y rfl) e
  | brw y =>
    refine .bind fun xs e ys e2 => ?_
    obtain ⟨b, vs, n, h1, h2, h3⟩ := PR.isL r e
    exact ⟨b, vs, n, h1, h2, (JX e2).2 ▸ Wo a.dom h3 (JX e2).1⟩
  | _ => exact .no
theorem Qq (u : V) : All (boolV u) fun b => u = .d (.bool b) := by
  cases u with
  | d x => cases x with
    | bool a => exact .so rfl
    | _ => exact .no
  | _ => exact .no
theorem ZFs (u : V) : All (intV u) fun b => u = .d (.int b) := by
  cases u with
  | d x => cases x with
    | int a => exact .so rfl
    | _ => exact .no
  | _ => exact .no
theorem Cf.R.int {i : Int} (r : c.R s v u) (e : intV u = some i) : ∃ t, v = .int i t := by rw [ZFs u i e] at r; exact PR.inv r
theorem Cf.R.bool {i : Bool} (r : c.R s v u) (e : boolV u = some i) : v = .bool i := by rw [Qq u i e] at r; exact PR.inv r

noncomputable abbrev Ret (c : Cf) (s : Shared) (u : V) (Q : Value → Shared → Prop) : Prop := ∀ v s', Ext c.fr s.heap s'.heap → Same s s' → c.R s' v u → Q v s'
theorem WfC.ret (W : WfC c) (a : At c s) (k : Fin c s K Q) (h : K u) : Ret c s u Q := fun v s' x m r => k v s' u (W.go a x m) x r h
theorem Fin.at {s₁ : Shared} (k : Fin c s K Q) (x : Ext c.fr s.heap s₁.heap) : Fin c s₁ K Q := fun v s' u a x' r h => k v s' u a (x.trans x') r h
theorem Ret.int {i : Int} (h : Ret c s (.d (.int i)) Q) (t tk : Tok) : Q (.int i t) { s with toks := tk } := h _ { s with toks := tk } (Ext.refl _ _) ⟨rfl, rfl⟩ (PR.int _ _)
theorem Ret.bool {b : Bool} (h : Ret c s (.d (.bool b)) Q) (tk : Tok) : Q (.bool b) { s with toks := tk } := h _ { s with toks := tk } (Ext.refl _ _) ⟨rfl, rfl⟩ (PR.bool _)
theorem Ret.bool' {b : Bool} (h : Ret c s (.d (.bool b)) Q) : Q (.bool b) s := h.bool s.toks
theorem Ret.kint {i : Int} (h : Ret c s (.d (.int i)) Q) (t : Tok) {h' : Heap} (k : Keep s.heap h') (tk : Tok) : Q (.int i t) { s with heap := h', toks := tk } := h _ { s with heap := h', toks := tk } (Ext.of k) ⟨rfl, rfl⟩ (PR.int _ _)
theorem Ret.kbool {i : Bool} (h : Ret c s (.d (.bool i)) Q) {h' : Heap} (k : Keep s.heap h') (tk : Tok) : Q (.bool i) { s with heap := h', toks := tk } := h _ { s with heap := h', toks := tk } (Ext.of k) ⟨rfl, rfl⟩ (PR.bool _)
theorem Ret.new {h' : Heap} {l : Addr} {vs : Array Value} {n : Nat} (k : Ret c s (.own (.list xs)) Q) (a : AtC c s) (kh : Keep s.heap h') (nl : s.heap.get? l = none) (hl : h'.get? l = some (listObj vs n)) (r : PRs c.hid s.heap vs.toList xs) (tk : Tok) : Q (.ref l) { s with heap := h', toks := tk } :=
  k _ { s with heap := h', toks := tk } (Ext.of kh) ⟨rfl, rfl⟩ ⟨l, rfl, a.ext.gone nl, vs, n, hl, r.move fun b o nb e => ⟨fun q => q.elim (fun q => JE (q ▸ e) nl) nb, kh b o e⟩⟩
theorem Ret.push {vs : Array Value} (k : Ret c s (.own (.list xs)) Q) (a : AtC c s) (n : Nat) (r : PRs c.hid s.heap vs.toList xs) : Q (.ref s.heap.objs.size) { s with heap := s.heap.push (listObj vs n) } :=
  k.new a (JQ _ _) (JW _) (Heap.get?_push_size _ rfl) r s.toks
theorem WfC.tup (W : WfC c) {vs : Array Value} (k : Ret c s (.d (.tuple xs)) Q) (a : AtC c s) (n : Nat) (r : PRs c.hid s.heap vs.toList xs) : Q (.ref s.heap.objs.size) { s with heap := s.heap.push (tupObj vs n) } :=
  k _ { s with heap := s.heap.push (tupObj vs n) } (Ext.of (JQ _ _)) ⟨rfl, rfl⟩ (PR.tuple (W.new_hid (a.ext.gone (JW _))) (Heap.get?_push_size _ rfl) (r.move fun b o nb e => ⟨nb, JQ _ _ b o e⟩))
end
end TC

namespace TC
open PySem PySem.W PyProof.Rows

theorem VF (x : PyData) : All (intOf x) fun i => x = .int i := by
  cases x with
  | int i => exact .so rfl
  | _ => exact .no
theorem Qb {xs : List PyData} : All (allOf intOf xs) fun is => xs = ofInts is := by
  induction xs with
  | nil => exact .so rfl
  | cons x xs ih => exact .bind fun a h1 => .map fun is h2 => by rw [VF x a h1, ih is h2]; rfl
theorem ZDw (x : PyData) : All (tupOf x) fun is => x = .tuple (ofInts is) := by
  cases x with
  | tuple t => exact fun is e => congrArg _ (Qb is e)
  | _ => exact .no
theorem Wa {xs : List PyData} : All (allOf tupOf xs) fun ts => xs = ofTups ts := by
  induction xs with
  | nil => exact .so rfl
  | cons x xs ih => exact .bind fun a h1 => .map fun is h2 => by rw [ZDw x a h1, ih is h2]; rfl
theorem Xu {a : List Int} : ∀ {b : List Int}, ofInts a = ofInts b → a = b := by
  induction a with
  | nil => intro b e; cases b with
    | nil => rfl
    | cons => cases e
  | cons x a ih => intro b e; cases b with
    | nil => cases e
    | cons y b => injection e with e1 e2; cases e1; rw [ih e2]
theorem GB {a : List (List Int)} : ∀ {b : List (List Int)}, ofTups a = ofTups b → a = b := by
  induction a with
  | nil => intro b e; cases b with
    | nil => rfl
    | cons => cases e
  | cons x a ih => intro b e; cases b with
    | nil => cases e
    | cons y b => injection e with e1 e2; injection e1 with e1; rw [ih e2, Xu e1]
theorem Vp {a : List Int} {b : List (List Int)} (e : ofInts a = ofTups b) : a = [] ∧ b = [] := by
  cases a with
  | nil => cases b with
    | nil => exact ⟨rfl, rfl⟩
    | cons => cases e
  | cons => cases b with
    | nil => cases e
    | cons => injection e with e1 e2; cases e1
section
variable {P : AP} {h : Heap} {a : Addr} {es : Array DictEntry} {kvs : List (PyData × PyData)}
theorem DictOk.ints (d : DictOk a es kvs) {ks : List Int} (e : tabI kvs = some ks) : kvs.map (·.1) = ofInts ks ∧ es.toList.map (·.hash) = ks.map hashInt ∧ ks.Nodup := by
  have e := Qb ks e
  rcases d.keys with ⟨ks', h1, h2, h3⟩ | ⟨ks', h1, h2, h3⟩
  · obtain rfl := Xu (e.symm.trans h1); exact ⟨h1, h2, h3⟩
  · obtain ⟨rfl, rfl⟩ := Vp (e.symm.trans h1); exact ⟨h1, h2, .nil⟩
theorem DictOk.tups (d : DictOk a es kvs) {ks : List (List Int)} (e : tabT kvs = some ks) : kvs.map (·.1) = ofTups ks ∧ es.toList.map (·.hash) = ks.map tupH ∧ ks.Nodup := by
  have e := Wa ks e
  rcases d.keys with ⟨ks', h1, h2, h3⟩ | ⟨ks', h1, h2, h3⟩
  · obtain ⟨rfl, rfl⟩ := Vp (h1.symm.trans e); exact ⟨h1, h2, .nil⟩
  · obtain rfl := GB (e.symm.trans h1); exact ⟨h1, h2, h3⟩
theorem DictOk.snd (d : DictOk a es kvs) : kvs.map (·.2) = (kvs.map (·.1)).map fun _ => PyData.bool true := by
  rw [List.map_map]; exact List.map_congr_left fun p hp => d.vals p hp
variable {prog : Program} {w : World}
theorem ZDq {l : List DictEntry} : ∀ {ks : List Int}, PRs P h (l.map (·.key)) (ofInts ks) → PRs P h (l.map (·.val)) ((ofInts ks).map fun _ => .bool true) → l.map (·.hash) = ks.map hashInt →
    Pairs (intKind prog w) l (ks.map fun k => (k, .bool true)) ∧ ∀ e ∈ l, ∃ k, (intKind prog w).is k e.key = true ∧ e.hash = (intKind prog w).hash k := by
  induction l with
  | nil => intro ks r _ _; cases ks with
    | nil => exact ⟨.nil, fun e h => nomatch h⟩
    | cons => obtain ⟨_, _, e, _⟩ := r.inv; cases e
  | cons d l ih =>
    intro ks r q e
    cases ks with
    | nil => exact nomatch (show _ = ([] : List Value) from r.inv)
    | cons k ks =>
      obtain ⟨v, vs, e1, r1, r2⟩ := r.inv
      obtain ⟨v', vs', e2, q1, q2⟩ := q.inv
      injection e1 with e1 e3
      injection e2 with e2 e4
      injection e with e5 e6
      subst e1 e3 e2 e4
      obtain ⟨t, ek⟩ := r1.inv
      obtain ⟨i1, i2⟩ := ih r2 q2 e6
      replace ek : d.key = .int k t := ek
      have is : (intKind prog w).is k d.key = true := by rw [ek]; exact intKind_is prog w k t
      refine ⟨.cons is (show d.val = .bool true from q1.inv) i1, fun z hz => ?_⟩
      rcases List.mem_cons.mp hz with rfl | hz
      · exact ⟨k, is, e5⟩
      · exact i2 z hz
theorem Hz {d : Addr} {n : Nat} {ks : List Int} (ho : h.get? d = some (dictObj es n)) (rk : PRs P h (es.toList.map (·.key)) (kvs.map (·.1))) (rv : PRs P h (es.toList.map (·.val)) (kvs.map (·.2))) (ok : DictOk a es kvs) (e : tabI kvs = some ks) : h.DictOf (intKind prog w) d (ks.map fun k => (k, .bool true)) := by
  obtain ⟨h1, h2, h3⟩ := ok.ints e
  rw [ok.snd, h1] at rv
  rw [h1] at rk
  obtain ⟨p1, p2⟩ := ZDq (prog := prog) (w := w) rk rv h2
  exact ⟨_, es, n, ho, ⟨rfl, rfl, rfl⟩, rfl, fun z hz => p2 z (Array.mem_toList_iff.mpr hz), p1, by rw [List.map_map]; exact (List.map_id ks).symm ▸ h3⟩
theorem Hh {l : List DictEntry} {kv : List (Int × Value)} (hp : Pairs (intKind prog w) l kv) : (∀ e ∈ l, ∃ k, (intKind prog w).is k e.key = true ∧ e.hash = (intKind prog w).hash k) → (∀ p ∈ kv, p.2 = .bool true) →
    PRs P h (l.map (·.key)) (ofInts (kv.map (·.1))) ∧ PRs P h (l.map (·.val)) ((ofInts (kv.map (·.1))).map fun _ => .bool true) ∧ l.map (·.hash) = (kv.map (·.1)).map hashInt := by
  induction hp with
  | nil => exact fun _ _ => ⟨.nil, .nil, rfl⟩
  | cons h1 h2 _ ih =>
    rename_i e kv es kvs _
    intro hk ht
    obtain ⟨i1, i2, i3⟩ := ih (fun z hz => hk z (.tail _ hz)) fun z hz => ht z (.tail _ hz)
    obtain ⟨k, q1, q2⟩ := hk e (.head _)
    have ek : k = kv.1 := (intKind prog w).inj e.key k kv.1 q1 h1
    obtain ⟨t, q3⟩ := Value.isInt_shape h1
    refine ⟨.cons (show PR P h e.key (.int kv.1) by rw [q3]; exact .int _ _) i1, .cons (show PR P h e.val (.bool true) by rw [h2, ht kv (.head _)]; exact .bool _) i2, ?_⟩
    show e.hash :: _ = hashInt kv.1 :: _
    rw [i3, q2, ek]; rfl
theorem Hg {d : Addr} {l : List (Int × Value)} (hm : h.DictOf (intKind prog w) d l) (ht : ∀ p ∈ l, p.2 = .bool true) (off : (d == sysModules) = false) : OwnAt P h d (.dict ((l.map (·.1)).map fun k => (.int k, .bool true))) := by
  obtain ⟨o, es, n, ho, ⟨c1, c2, c3⟩, hd, hk, hp, nd⟩ := hm
  obtain ⟨cls, dct, data, slots⟩ := o
  cases c1; cases c2; cases c3; cases hd
  obtain ⟨h1, h2, h3⟩ := Hh (P := P) (h := h) hp (fun z hz => hk z (Array.mem_toList_iff.mp hz)) ht
  have e1 : (((l.map (·.1)).map fun k => (PyData.int k, PyData.bool true)).map (·.1)) = ofInts (l.map (·.1)) := by rw [List.map_map]; rfl
  refine ⟨es, n, ho, e1.symm ▸ h1, ?_, off, fun p hp => ?_, .inl ⟨l.map (·.1), e1, h3, nd⟩⟩
  · rw [List.map_map]; rw [ofInts, List.map_map] at h2; exact h2
  · obtain ⟨k, _, rfl⟩ := List.mem_map.mp hp; rfl
theorem HH {vs : List Value} : ∀ {ks : List Int}, PRs P h vs (ofInts ks) → ItemsAre (intKind prog w) ks vs := by
  induction vs with
  | nil => intro ks r; cases ks with
    | nil => exact .nil
    | cons => obtain ⟨_, _, e, _⟩ := r.inv; cases e
  | cons v vs ih =>
    intro ks r
    cases ks with
    | nil => exact nomatch (show _ = ([] : List Value) from r.inv)
    | cons k ks =>
      obtain ⟨_, _, e1, r1, r2⟩ := r.inv
      cases e1
      obtain ⟨t, rfl⟩ := r1.inv
      exact .cons (intKind_is prog w k t) (ih r2)
theorem HJ {z : Addr} {ks : List Int} (r : PR P h (.ref z) (.tuple (ofInts ks))) : (tupleKind (intKind prog w)).is h ks z := by
  obtain ⟨b, vs, n, e, _, ho, q⟩ := r.inv
  cases e
  exact ⟨_, vs, n, ho, rfl, rfl, HH q⟩
theorem WX {l : List DictEntry} : ∀ {ks : List (List Int)}, PRs P h (l.map (·.key)) (ofTups ks) → PRs P h (l.map (·.val)) ((ofTups ks).map fun _ => .bool true) → l.map (·.hash) = ks.map tupH →
    ∃ xs : List (List Int × Addr × Value), xs.map (·.1) = ks ∧ l = xs.map (entryOfKey (tupleKind (intKind prog w))) ∧ ∀ x ∈ xs, (tupleKind (intKind prog w)).is h x.1 x.2.1 ∧ PR P h (.ref x.2.1) (.tuple (ofInts x.1)) ∧ x.2.2 = .bool true := by
  induction l with
  | nil => intro ks r _ _; cases ks with
    | nil => exact ⟨[], rfl, rfl, fun e h => nomatch h⟩
    | cons => obtain ⟨_, _, e, _⟩ := r.inv; cases e
  | cons d l ih =>
    intro ks r q e
    cases ks with
    | nil => exact nomatch (show _ = ([] : List Value) from r.inv)
    | cons k ks =>
      obtain ⟨v, vs, e1, r1, r2⟩ := r.inv
      obtain ⟨v', vs', e2, q1, q2⟩ := q.inv
      injection e1 with e1 e3
      injection e2 with e2 e4
      injection e with e5 e6
      subst e1 e3 e2 e4
      obtain ⟨xs, i1, i2, i3⟩ := ih r2 q2 e6
      obtain ⟨dh, dk, dv⟩ := d
      obtain ⟨z, vs, n, ek, _⟩ := r1.inv
      replace ek : dk = .ref z := ek
      subst ek
      obtain rfl : dv = .bool true := q1.inv
      obtain rfl : dh = tupH k := e5
      refine ⟨(k, z, .bool true) :: xs, by rw [← i1]; rfl, by rw [i2]; rfl, fun x hx => ?_⟩
      rcases List.mem_cons.mp hx with rfl | hx
      · exact ⟨HJ r1, r1, rfl⟩
      · exact i3 x hx
theorem Uy {α κ : Type} [BEq κ] [LawfulBEq κ] [DecidableEq κ] (f : α → κ) {xs : List α} {k : κ} : (xs.find? fun x => decide (f x = k)).isSome = (xs.map f).contains k := by
  induction xs with
  | nil => rfl
  | cons x xs ih =>
    rw [List.map_cons, List.contains_cons, List.find?_cons, ← ih]
    by_cases q : f x = k
    · rw [decide_eq_true q, beq_iff_eq.mpr q.symm]; rfl
    · rw [decide_eq_false q, beq_false_of_ne (Ne.symm q)]; rfl
theorem Uj {ks : List Int} {k : Int} : (valueAt (ks.map fun k => (k, Value.bool true)) k).isSome = ks.contains k := by
  unfold valueAt
  rw [Option.isSome_map]
  refine (Uy (fun x : Int × Value => x.1)).trans ?_
  rw [List.map_map]
  exact congrArg (List.contains · k) (List.map_id ks)
theorem Vb {xs : List (List Int × Addr × Value)} {k : List Int} : (atKey xs k).isSome = (xs.map (·.1)).contains k := by
  unfold atKey
  rw [Option.isSome_map]
  exact Uy (fun x : List Int × Addr × Value => x.1)
end
end TC

namespace TC
open PySem PySem.W PyProof.Rows

section
variable {c : Cf} {s : Shared} {v1 v2 : Value} {u1 u2 : V} {xs ys : List PyData} {K : V → Prop} {Q : Value → Shared → Prop}
theorem WfC.hu (W : WfC c) : c.A.units + 100 < cLine := by
  have := W.units
  show c.A.units + 100 < 9900
  lia
theorem ZGg (W : WfC c) (a : At c s) (k : Fin c s K Q) (po : Operator) (i j : Int) (t1 t2 : Tok) : All (lowOp po) fun o => numW o i j K → c.wp (binaryOp po (.int i t1) (.int j t2)) Q s := by
  cases po with
  | Add => exact .so fun w => add_int ((W.ret a k w).int _ _)
  | Sub => exact .so fun w => sub_int ((W.ret a k w).int _ _)
  | Mult => exact .so fun w => mul_int ((W.ret a k w.2).int _ _) w.1
  | FloorDiv => exact .so fun w => floordiv_int w.1.1 ((W.ret a k w.2).int _ _) (.inl (PyProof.noPylong_small w.1.2))
  | Mod => exact .so fun w => mod_int' w.1 ((W.ret a k w.2).int _ _)
  | _ => exact .no
theorem Jt {n m : Nat} (h : n < lim) (le : 1000000 ≤ m) : n ≤ m := by rw [Qk] at h; lia
theorem ZCi (a : AtC c s) (h1 : IsL c.hid s.heap v1 xs) (h2 : IsL c.hid s.heap v2 ys) (hz : xs.length + ys.length < lim) (k : Ret c s (.own (.list (xs ++ ys))) Q) : c.wp (binaryOp .Add v1 v2) Q s := by
  obtain ⟨l1, vs, n, rfl, g1, r1⟩ := h1
  obtain ⟨l2, ws, m, rfl, g2, r2⟩ := h2
  refine P.add_list g1 g2 (k.push a 0 ?_) (by rw [r1.size, r2.size]; exact Jt hz (by rw [sizeLine_eq]; decide))
  rw [Array.toList_append]
  exact PRs.append r2 r1
theorem Gs (its : Array Value) (k : Nat) : ∀ acc : Array Value, (List.foldl (fun x1 x2 => x1 ++ x2) acc (List.replicate k its)).toList = acc.toList ++ (List.replicate k its.toList).flatten := by
  induction k with
  | zero => intro acc; exact (List.append_nil _).symm
  | succ k ih => intro acc; rw [List.replicate_succ, List.foldl_cons, ih, List.replicate_succ, List.flatten_cons, Array.toList_append, List.append_assoc]
theorem ZCk (a : AtC c s) (h1 : IsL c.hid s.heap v1 xs) {i : Int} {t : Tok} (hk : 0 ≤ i ∧ i < lim ∧ xs.length * i.toNat < lim) (k : Ret c s (.own (.list (List.replicate i.toNat xs).flatten)) Q) : c.wp (binaryOp .Mult v1 (.int i t)) Q s := by
  obtain ⟨l, vs, n, rfl, h1, r1⟩ := h1
  have l1 := r1.size
  rw [Qk] at hk
  refine wpAny_binaryOp_repeat_ref (T := "list") (U := "int") (by decide) ⟨_, h1, rfl⟩ (fun s' => typeIs_int s' i t) noFill_list_mul F.fills_int_mul F.slot_int_rmul repeat_list F.slot_int_index.lookup
    (call_meets F.slot_int_rmul (typeIs_int s i t) F.entry_int_rmul (F.args_int_rmul_2 _ _) (int___rmul___int_list i t l vs n)
      ⟨h1, rfl, ⟨_, h1, rfl⟩, call_meets F.slot_list_mul ⟨_, h1, rfl⟩ F.entry_list_mul (F.args_list_mul_2 _ _)
        (AutoListH.list___mul___list_int_3 l vs n i t (by simp [Builtin.List.listFitsIndex]; lia) (by rw [l1]; lia) (by simp [Builtin.List.listTooLong, sizeLine, l1]; lia))
        ⟨h1, k.push a 0 ?_⟩⟩)
  rw [Gs]
  cases he : vs.isEmpty with
  | true =>
    have : vs = #[] := by simpa using he
    subst this
    have hx : xs = [] := List.length_eq_zero_iff.mp l1.symm
    subst hx
    simp
    exact .nil
  | false => simpa using r1.rep i.toNat
theorem ZGi (W : WfC c) (a : At c s) (k : Fin c s K Q) (r1 : c.R s v1 u1) (r2 : c.R s v2 u2) (po : Operator) : All (lowOp po) fun o => objW o u1 u2 K → c.wp (binaryOp po v1 v2) Q s := by
  cases po with
  | Add => exact .so fun w => Zx w fun xs e1 w => Zx w fun ys e2 w => ZCi a.toAtC (W.ls a.toAtC r1 xs e1) (W.ls a.toAtC r2 ys e2) w.1 (W.ret a k w.2)
  | Mult =>
    refine .so fun w => Zx w fun xs e1 w => Zx w fun i e2 w => ?_
    obtain ⟨t, rfl⟩ := r2.int e2
    exact ZCk a.toAtC (W.ls a.toAtC r1 xs e1) w.1 (W.ret a k w.2)
  | Sub => exact .so fun w => w.elim
  | FloorDiv => exact .so fun w => w.elim
  | Mod => exact .so fun w => w.elim
  | _ => exact .no
theorem WL {o : Op} {P : Prop} (w : opW o u1 u2 K) (h1 : ∀ i j, intV u1 = some i → intV u2 = some j → numW o i j K → P) (h2 : objW o u1 u2 K → P) : P := by
  unfold opW at w
  cases e1 : intV u1 with
  | none => rw [e1] at w; exact h2 w
  | some i =>
    rw [e1] at w
    cases e2 : intV u2 with
    | none => rw [e2] at w; exact h2 w
    | some j => rw [e2] at w; exact h1 i j e1 e2 w
theorem bin_ok (W : WfC c) (a : At c s) (k : Fin c s K Q) (r1 : c.R s v1 u1) (r2 : c.R s v2 u2) {po : Operator} {o : Op} (lo : lowOp po = some o) (w : opW o u1 u2 K) : c.wp (binaryOp po v1 v2) Q s := by
  refine WL w (fun i j e1 e2 w => ?_) fun w => ZGi W a k r1 r2 po o lo w
  obtain ⟨t1, rfl⟩ := r1.int e1
  obtain ⟨t2, rfl⟩ := r2.int e2
  exact ZGg W a k po i j t1 t2 o lo w

theorem ZGh (W : WfC c) (a : At c s) (k : Fin c s K Q) (po : CmpOp) (i j : Int) (t1 t2 : Tok) : All (lowCmp po) fun o => numW o i j K → c.wp (compareOp po (.int i t1) (.int j t2)) Q s := by
  cases po with
  | Eq => exact .so fun w => P.eq_int (W.ret a k w).bool'
  | NotEq => exact .so fun w => P.ne_int (W.ret a k w).bool'
  | Lt => exact .so fun w => P.lt_int (W.ret a k w).bool'
  | LtE => exact .so fun w => P.le_int (W.ret a k w).bool'
  | Gt => exact .so fun w => P.gt_int (W.ret a k w).bool'
  | GtE => exact .so fun w => P.ge_int (W.ret a k w).bool'
  | In => exact .so fun w => w.elim
  | NotIn => exact .so fun w => w.elim
  | _ => exact .no
theorem ZEr (W : WfC c) {x y : PyData} (r1 : PR c.fr s.heap v1 x) (r2 : PR c.fr s.heap v2 y) (h1 : shp x) (h2 : shp y) (e : seqOf y = some ys) (neg : Bool) (k : Ret c s (.d (.bool (neg ^^ (ys.any fun z => PyData.eqv z x)))) Q) : c.wp (compareOp (cond neg .NotIn .In) v1 v2) Q s := by
  obtain ⟨_, q1⟩ := r1.reads
  obtain ⟨_, q2⟩ := r2.reads
  have hu := room_in_shaped (A := c.A) (xs := ys) h1 (Nat.lt_trans (Nat.add_lt_add_left (by decide) _) W.hu)
  have l1 := SeqAt.canLay_of_shaped h1
  have l2 := SeqAt.canLay_of_shaped h2
  cases y with
  | list zs =>
    cases e
    cases neg with
    | false => exact SeqAt.in_list_reads q2 q1 l2 l1 hu (by simpa using k.bool')
    | true => exact SeqAt.notIn_list_reads q2 q1 l2 l1 hu (by simpa using k.bool')
  | tuple zs =>
    cases e
    cases neg with
    | false => exact SeqAt.in_tuple_reads q2 q1 l2 l1 hu (by simpa using k.bool')
    | true => exact SeqAt.notIn_tuple_reads q2 q1 l2 l1 hu (by simpa using k.bool')
  | _ => cases e
theorem in_tab (W : WfC c) {x : PyData} {kvs : List (PyData × PyData)} (r1 : PR c.fr s.heap v1 x) (r2 : PR c.fr s.heap v2 (.dict kvs)) (neg : Bool) : All (hasKey x kvs) fun b => Ret c s (.d (.bool (neg ^^ b))) Q → c.wp (compareOp (cond neg .NotIn .In) v1 v2) Q s := by
  obtain ⟨d, es, n, rfl, nP, ho, rk, rv, ok⟩ := r2.inv
  cases x with
  | int k =>
    refine .map fun ks e kk => ?_
    obtain ⟨t, rfl⟩ := r1.inv
    have hm := Hz (prog := c.G.prog) (w := c.G.w) ho rk rv ok e
    have is := intKind_is c.G.prog c.G.w k t
    rw [← Uj] at kk
    cases neg with
    | false => exact wpAny_in_of is ok.off hm.mapOf (by rw [Bool.false_xor] at kk; exact kk.bool _)
    | true => exact wpAny_notIn_of is ok.off hm.mapOf (by rw [Bool.true_xor] at kk; exact kk.bool _)
  | tuple t =>
    refine .bind fun k e1 => .map fun ks e kk => ?_
    obtain ⟨z, _, _, rfl, _⟩ := id r1.inv
    obtain ⟨h1, h2, h3⟩ := ok.tups e
    rw [ok.snd, h1] at rv
    rw [h1] at rk
    obtain ⟨xs, p1, p2, p3⟩ := WX (prog := c.G.prog) (w := c.G.w) rk rv h2
    have hm : s.heap.DictOfH (tupleKind (intKind c.G.prog c.G.w)) d xs := ⟨_, es, n, ho, ⟨rfl, rfl, rfl⟩, rfl, p2, fun x hx => (p3 x hx).1, p1 ▸ h3⟩
    have is : (tupleKind (intKind c.G.prog c.G.w)).is s.heap k z := HJ (Qb k e1 ▸ r1)
    have hu : (tupleKind (intKind c.G.prog c.G.w)).room c.A.in1 := show c.A.units + 1 < cLine from Nat.lt_trans (Nat.add_lt_add_left (by decide) _) W.hu
    rw [← p1, ← Vb] at kk
    cases neg with
    | false => exact wpAny_in_heap hu is ok.off hm (by rw [Bool.false_xor] at kk; exact kk.bool _)
    | true => exact wpAny_notIn_heap hu is ok.off hm (by rw [Bool.true_xor] at kk; exact kk.bool _)
  | _ => exact .no
theorem ZEq (W : WfC c) {x y : PyData} {KB : Bool → Prop} (r1 : PR c.fr s.heap v1 x) (r2 : PR c.fr s.heap v2 y) (neg : Bool) (w : inW x y KB) (k : ∀ b, KB b → Ret c s (.d (.bool (neg ^^ b))) Q) : c.wp (compareOp (cond neg .NotIn .In) v1 v2) Q s := by
  cases y with
  | dict kvs => exact Zx w fun b e w => in_tab W r1 r2 neg b e (k b w)
  | list ys => exact ZEr W r1 r2 w.1 w.2.1 rfl neg (k _ w.2.2)
  | tuple ys => exact ZEr W r1 r2 w.1 w.2.1 rfl neg (k _ w.2.2)
  | _ => exact w.elim
theorem ZGj (W : WfC c) (a : At c s) (k : Fin c s K Q) (r1 : c.R s v1 u1) (r2 : c.R s v2 u2) (po : CmpOp) : All (lowCmp po) fun o => objW o u1 u2 K → c.wp (compareOp po v1 v2) Q s := by
  have hu : c.A.units + 64 < cLine := Nat.lt_trans (Nat.add_lt_add_left (by decide) _) W.hu
  cases po with
  | Eq =>
    refine .so fun w => Zx w fun x e1 w => Zx w fun y e2 w => ?_
    obtain ⟨_, q1⟩ := (W.rdf r1 x e1).reads
    obtain ⟨_, q2⟩ := (W.rdf r2 y e2).reads
    exact SeqAt.compareEq_shaped q1 q2 w.1 w.2.1 hu (W.ret a k w.2.2).bool'
  | NotEq =>
    refine .so fun w => Zx w fun x e1 w => Zx w fun y e2 w => ?_
    obtain ⟨_, q1⟩ := (W.rdf r1 x e1).reads
    obtain ⟨_, q2⟩ := (W.rdf r2 y e2).reads
    exact SeqAt.compareNe_shaped q1 q2 w.1 w.2.1 hu (W.ret a k w.2.2).bool'
  | In => exact .so fun w => Zx w fun x e1 w => Zx w fun y e2 w => ZEq W (W.rdf r1 x e1) (W.rdf r2 y e2) false w fun b w => by rw [Bool.false_xor]; exact W.ret a k w
  | NotIn => exact .so fun w => Zx w fun x e1 w => Zx w fun y e2 w => ZEq W (W.rdf r1 x e1) (W.rdf r2 y e2) true w fun b w => by rw [Bool.true_xor]; exact W.ret a k w
  | Lt => exact .so fun w => w.elim
  | LtE => exact .so fun w => w.elim
  | Gt => exact .so fun w => w.elim
  | GtE => exact .so fun w => w.elim
  | _ => exact .no
theorem Un (W : WfC c) (a : At c s) (k : Fin c s K Q) (r1 : c.R s v1 u1) (r2 : c.R s v2 u2) {po : CmpOp} {o : Op} (lo : lowCmp po = some o) (w : opW o u1 u2 K) : c.wp (compareOp po v1 v2) Q s := by
  refine WL w (fun i j e1 e2 w => ?_) fun w => ZGj W a k r1 r2 po o lo w
  obtain ⟨t1, rfl⟩ := r1.int e1
  obtain ⟨t2, rfl⟩ := r2.int e2
  exact ZGh W a k po i j t1 t2 o lo w
end
end TC

namespace TC
open PySem PySem.W PyProof.Rows

section
variable {prog : Program} {w : World} {A : Around} {s : Shared} {hm : Bool}

set_option maxRecDepth 100000 in
theorem GQ {v : Value} {e : Addr} (hb : Bare s.heap e) {Q : Value → Shared → Prop} {E : Value → Shared → Prop} (h : Q .none s) :
    wpAny (model prog w) A (runValue (.builtin "proto.unchain" ⟨[v, .ref e, .ref e, .bool false], []⟩)) Q E s := by
  obtain ⟨o, vs, h1, h2, h3⟩ := hb
  refine wpAny_runValue (codeAny_builtin (b := Builtin.«proto.unchain») (entryFor_of_tree (by kernel_rfl)) ?_)
  show wpAny _ _ (field (.ref e) 2 >>= _) _ _ s
  refine wpAny_bind (wpAny_field h1 h2 h3 ?_)
  show wpAny _ _ (if (Value.none == Value.none) = true then _ else _) _ _ s
  rw [if_pos (show (Value.none == Value.none) = true from rfl)]
  exact wpAny_pure h

theorem Hv {α : Type} (hk : HOk hm A s.heap) {Q : α → Shared → Prop} {E : Value → Shared → Prop}
    (h : ∀ x h', (∀ b o, s.heap.get? b = some o → h'.get? b = some o) → (∃ o, h'.get? x = some o ∧ o.cls = .type "StopIteration") → E (.ref x) { s with heap := h' }) :
    wpAny (model prog w) A (newExc (.type "StopIteration") [] >>= fun e => (raiseNew e : Sem α)) Q E s := by
  refine wpAny_bind ?_
  simp only [newExc, newTuple]
  refine wpAny_bind (wpAny_newObj_type ?_ (by size_fits))
  refine wpAny_bind (m := firstArgMember _ _) (wpAny_of_eq (a := Value.none) (by first | rfl | (simp only [firstArgMember]; rfl)) ?_)
  refine wpAny_newObj_type ?_ (by size_fits)
  have old : ∀ (o1 o2 : Obj) b o, s.heap.get? b = some o → ((s.heap.push o1).push o2).get? b = some o := fun o1 o2 b o e => Heap.get?_push_of_some _ (Heap.get?_push_of_some _ e)
  simp only [raiseNew]
  refine wpAny_bind (wpAny_handled ?_)
  rcases hk with ⟨_, e⟩ | ⟨_, e, e1, hb⟩
  · rw [e]
    refine wpAny_bind (wpAny_pure (wpAny_throw ?_))
    exact h _ _ (old _ _) ⟨_, Heap.get?_push_size _ rfl, rfl⟩
  · rw [e1]
    have lt : e < s.heap.objs.size := by obtain ⟨o, vs, q, _, _⟩ := hb; exact Heap.lt_size q
    have ne : e ≠ (s.heap.push { cls := .type "tuple", data := .seq ([] : List Value).toArray }).objs.size := by rw [Heap.size_push]; exact Nat.ne_of_lt (Nat.lt_succ_of_lt lt)
    dsimp only
    rw [if_pos (by simp only [bne_iff_ne, ne_eq, Value.ref.injEq]; exact ne)]
    refine wpAny_bind (wpAny_holding (GQ ?_ ?_))
    · obtain ⟨o, vs, q, r, z⟩ := hb; exact ⟨o, vs, old _ _ _ _ q, r, z⟩
    · refine wpAny_bind ?_
      show wpAny _ _ (setField (.ref _) 2 _) _ _ _
      refine wpAny_setField (Heap.get?_push_size _ rfl) rfl (by rw [Array.size_append]; exact Nat.lt_of_lt_of_le (show 2 < 6 from by decide) (Nat.le_add_right _ _)) (wpAny_throw ?_)
      refine h _ _ (fun b o q => ?_) ⟨_, Heap.get?_update_self _ (Heap.get?_push_size _ rfl) rfl, rfl⟩
      rw [Heap.get?_update_other]
      · exact old _ _ _ _ q
      · have := Heap.lt_size q; rw [Heap.size_push]; exact Nat.ne_of_gt (Nat.lt_succ_of_lt this)

noncomputable def hAddr (A : Around) : List Addr := match A.handled with
  | some (.ref e) => [e]
  | _ => []
theorem WB {e : Addr} (h : A.handled = some (.ref e)) : hAddr A = [e] := by unfold hAddr; rw [h]
theorem ZBv (h : A.handled = none) : hAddr A = [] := by unfold hAddr; rw [h]
theorem HOk.at {h h' : Heap} (x : HOk hm A h) (k : ∀ b ∈ hAddr A, ∀ o, h.get? b = some o → h'.get? b = some o) : HOk hm A h' := by
  rcases x with q | ⟨q, e, e1, o, vs, q1, q2, q3⟩
  · exact .inl q
  · exact .inr ⟨q, e, e1, o, vs, k e (WB e1 ▸ .head _) o q1, q2, q3⟩
theorem HOk.rec {h : Heap} (x : HOk hm A h) : ∀ b ∈ hAddr A, ∃ o vs, h.get? b = some o ∧ o.data = .fields vs := fun b hb => by
  rcases x with ⟨_, q⟩ | ⟨q, e, e1, o, vs, q1, q2, q3⟩
  · rw [ZBv q] at hb; cases hb
  · rw [WB e1] at hb; rw [List.mem_singleton.mp hb]; exact ⟨o, vs, q1, q2⟩
theorem HOk.lt {h : Heap} (x : HOk hm A h) : ∀ b ∈ hAddr A, b < h.objs.size := fun b hb => let ⟨_, _, e, _⟩ := x.rec b hb; Heap.lt_size e
theorem HOk.none {h : Heap} (x : HOk false A h) : A.handled = none := x.elim (·.2) fun q => nomatch q.1

theorem ZCj {it l : Addr} {i : Nat} {items : Array Value} {Q : Option Value → Shared → Prop} {E : Value → Shared → Prop} (hk : HOk hm A s.heap) (hne : ∀ b ∈ hAddr A, b ≠ it)
    (hit : s.heap.IsListIter it l i) (hl : s.heap.IsList l items) (hx : items[i]? = none)
    (hQ : ∀ h', Heap.ExtBut it s.heap h' → Q none { s with heap := h' }) : wpAny (model prog w) A (pyNext (.ref it)) Q E s := by
  obtain ⟨o, ho, hc, hd⟩ := id hit
  obtain ⟨ol, hol, _, nl, hdl⟩ := hl
  unfold pyNext
  refine wpAny_bind (wpAny_attempt (wpAny_callSpecial?_slot (name := Str.ofString "__next__") hit.typeIs slot_listiter_next
    (wpAny_call_entry slot_listiter_next hit.typeIs entry_listiter_next ?_ (args_listiter_next _))))
  show wpAny _ _ (field (.ref it) 0 >>= _) _ _ s
  refine wpAny_bind (wpAny_field ho hd (x := .ref l) rfl ?_)
  show wpAny _ _ (if (Value.ref l == Value.none) = true then _ else _) _ _ s
  rw [if_neg (show ¬ ((Value.ref l == Value.none) = true) from Bool.false_ne_true)]
  show wpAny _ _ (field (.ref it) 1 >>= _) _ _ s
  refine wpAny_bind (wpAny_field ho hd (x := .int i 0) rfl ?_)
  show wpAny _ _ (seqItems? (.ref l) >>= _) _ _ s
  refine wpAny_bind (wpAny_seqItems hol hdl ?_)
  simp only [Int.toNat_natCast, hx]
  refine wpAny_bind (wpAny_rule (wpAny_bind (wpAny_setField ho hd (by simp) ?_)))
  show wpAny _ _ (newExc (.type "StopIteration") [] >>= _) _ _ _
  refine Hv (hm := hm) ?_ fun x h' keep ty => ?_
  · exact hk.at fun b hb o e => (Heap.get?_update_other _ _ (Ne.symm (hne b hb))).trans e
  refine wpAny_bind (wpAny_isInstance (T := "StopIteration") (b := true) ty isSubtype_stop ?_)
  exact wpAny_pure (hQ _ fun b o hb e => keep b o ((Heap.get?_update_other _ _ (Ne.symm hb)).trans e))

theorem UD {it l : Addr} {i : Nat} {items : Array Value} {Q : Option Value → Shared → Prop} {E : Value → Shared → Prop} (hk : HOk hm A s.heap) (hne : ∀ b ∈ hAddr A, b ≠ it)
    (hit : s.heap.IsTupleIter it l i) (hl : s.heap.IsTuple l items) (hx : items[i]? = none)
    (hQ : ∀ h', Heap.ExtBut it s.heap h' → Q none { s with heap := h' }) : wpAny (model prog w) A (pyNext (.ref it)) Q E s := by
  obtain ⟨o, ho, hc, hd⟩ := id hit
  obtain ⟨ol, hol, _, nl, hdl⟩ := hl
  unfold pyNext
  refine wpAny_bind (wpAny_attempt (wpAny_callSpecial?_slot (name := Str.ofString "__next__") hit.typeIs F.slot_tuple_iterator_next
    (wpAny_call_entry F.slot_tuple_iterator_next hit.typeIs F.entry_tuple_iterator_next ?_ (F.args_tuple_iterator_next_1 _))))
  show wpAny _ _ (field (.ref it) 0 >>= _) _ _ s
  refine wpAny_bind (wpAny_field ho hd (x := .ref l) rfl ?_)
  show wpAny _ _ (if (Value.ref l == Value.none) = true then _ else _) _ _ s
  rw [if_neg (show ¬ ((Value.ref l == Value.none) = true) from Bool.false_ne_true)]
  show wpAny _ _ (field (.ref it) 1 >>= _) _ _ s
  refine wpAny_bind (wpAny_field ho hd (x := .int i 0) rfl ?_)
  show wpAny _ _ (seqItems? (.ref l) >>= _) _ _ s
  refine wpAny_bind (wpAny_seqItems hol hdl ?_)
  simp only [Int.toNat_natCast, hx]
  refine wpAny_bind (wpAny_rule (wpAny_bind (wpAny_setField ho hd (by simp) ?_)))
  show wpAny _ _ (newExc (.type "StopIteration") [] >>= _) _ _ _
  refine Hv (hm := hm) ?_ fun x h' keep ty => ?_
  · exact hk.at fun b hb o e => (Heap.get?_update_other _ _ (Ne.symm (hne b hb))).trans e
  refine wpAny_bind (wpAny_isInstance (T := "StopIteration") (b := true) ty isSubtype_stop ?_)
  exact wpAny_pure (hQ _ fun b o hb e => keep b o ((Heap.get?_update_other _ _ (Ne.symm hb)).trans e))

theorem GR (I ax : Addr) (hne : ax ≠ I) (hI : I ∉ hAddr A) (items : Array Value) :
    Walks prog w A I (I :: ax :: hAddr A) [I] items.size (fun i v => items[i]? = some v) (fun i h => h.IsListIter I ax i ∧ h.IsList ax items ∧ HOk hm A h) where
  sub := fun b hb => by simp at hb; simp [hb]
  frame := fun _ _ _ st hk => ⟨st.1.at fun o e => hk I (by simp) o e, st.2.1.at fun o e => hk ax (by simp) o e, st.2.2.at fun b hb o e => hk b (by simp [hb]) o e⟩
  item := fun i s Q E hi st hQ => by
    refine wpAny_pyNext_list_item st.1 st.2.1 (x := items[i]) (by simp [hi]) fun h' hit' hs' => ?_
    exact hQ _ h' s.toks (by simp [hi]) ⟨hit', st.2.1.extBut hs'.extBut hne, st.2.2.at fun b hb o e => hs'.extBut b o (fun q => hI (q ▸ hb)) e⟩ fun b o hb e => hs'.extBut b o (fun h => hb (by simp [h])) e
  done := fun s Q E st hQ => ZCj st.2.2 (fun b q z => hI (z ▸ q)) st.1 st.2.1 (by simp) fun h' he' => hQ h' s.toks fun b o hb e => he' b o (fun h => hb (by simp [h])) e
  self := fun _ _ _ _ st hQ => wpAny_pyIter_listiter st.1 hQ
theorem Uk (I ax : Addr) (hne : ax ≠ I) (hI : I ∉ hAddr A) (items : Array Value) :
    Walks prog w A I (I :: ax :: hAddr A) [I] items.size (fun i v => items[i]? = some v) (fun i h => h.IsTupleIter I ax i ∧ h.IsTuple ax items ∧ HOk hm A h) where
  sub := fun b hb => by simp at hb; simp [hb]
  frame := fun _ _ _ st hk => ⟨st.1.at fun o e => hk I (by simp) o e, st.2.1.at fun o e => hk ax (by simp) o e, st.2.2.at fun b hb o e => hk b (by simp [hb]) o e⟩
  item := fun i s Q E hi st hQ => by
    refine wpAny_pyNext_tuple_item st.1 st.2.1 (x := items[i]) (by simp [hi]) fun h' hit' hs' => ?_
    exact hQ _ h' s.toks (by simp [hi]) ⟨hit', st.2.1.extBut hs'.extBut hne, st.2.2.at fun b hb o e => hs'.extBut b o (fun q => hI (q ▸ hb)) e⟩ fun b o hb e => hs'.extBut b o (fun h => hb (by simp [h])) e
  done := fun s Q E st hQ => UD st.2.2 (fun b q z => hI (z ▸ q)) st.1 st.2.1 (by simp) fun h' he' => hQ h' s.toks fun b o hb e => he' b o (fun h => hb (by simp [h])) e
  self := fun _ _ _ _ st hQ => wpAny_pyIter_tupleiter st.1 hQ

noncomputable def quietIt (n : String) : Bool := !(["enumerate", "zip", "dict_itemiterator", "dict_reverseitemiterator", "odict_iterator", "itertools.zip_longest", "itertools.pairwise"].contains n)
inductive ItObj (h : Heap) (I : Addr) : Prop
  | mk (o : Obj) (n : String) : h.get? I = some o → o.cls = .type n → quietIt n = true → NT o → ItObj h I
inductive Itr (prog : Program) (w : World) (A : Around) (I : Addr) (n : Nat) (It : Nat → Value → Prop) (h : Heap) (src : Value) : Prop
  | mk (fp : List Addr) (St : Nat → Heap → Prop) : Walks prog w A I fp [I] n It St → St 0 h → (∀ b ∈ fp, b < h.objs.size ∧ (b = I ∨ b ∈ hAddr A ∨ src = .ref b)) → (∀ i h, St i h → ItObj h I) → Itr prog w A I n It h src

theorem NT.of {o : Obj} {vs : Array Value} (d : o.data = .fields vs) : NT o := fun _ ws k q => by rw [d] at q; cases q
theorem fp_ok {a : Addr} {o : Obj} (hk : HOk hm A s.heap) (lt : a < s.heap.objs.size) : ∀ b ∈ s.heap.objs.size :: a :: hAddr A, b < (s.heap.push o).objs.size ∧ (b = s.heap.objs.size ∨ b ∈ hAddr A ∨ Value.ref a = .ref b) := fun b hb => by
  rw [Heap.size_push]
  rcases List.mem_cons.mp hb with rfl | hb
  · exact ⟨Nat.lt_succ_self _, .inl rfl⟩
  · rcases List.mem_cons.mp hb with rfl | hb
    · exact ⟨Nat.lt_succ_of_lt lt, .inr (.inr rfl)⟩
    · exact ⟨Nat.lt_succ_of_lt (hk.lt _ hb), .inr (.inl hb)⟩
theorem Qv {v : Value} {x : PyData} {P : AP} {xs : List PyData} (hk : HOk hm A s.heap) (r : PR P s.heap v x) (e : seqOf x = some xs) {Q : Value → Shared → Prop} {E : Value → Shared → Prop}
    (h : ∀ h' (vs : Array Value), PRs P s.heap vs.toList xs → Keep s.heap h' → Itr prog w A s.heap.objs.size xs.length (fun i v => vs[i]? = some v) h' v → Q (.ref s.heap.objs.size) { s with heap := h' }) : wpAny (model prog w) A (pyIter v) Q E s := by
  cases x with
  | list ys =>
    cases e
    obtain ⟨a, vs, n, rfl, _, ho, q⟩ := r.inv
    have hl : s.heap.IsList a vs := ⟨_, ho, rfl, n, rfl⟩
    have lt := Heap.lt_size ho
    refine wpAny_pyIter_list hl (h _ vs q (JQ _ _) ⟨s.heap.objs.size :: a :: hAddr A, fun i h => h.IsListIter s.heap.objs.size a i ∧ h.IsList a vs ∧ HOk hm A h, ?_, ⟨⟨_, Heap.get?_push_size _ rfl, rfl, rfl⟩, hl.push _, hk.at fun b hb => JQ _ _ b⟩, fp_ok hk lt, fun i h st => ?_⟩)
    · rw [← q.size]; exact GR _ a (Nat.ne_of_lt lt) (fun q => Nat.lt_irrefl _ (hk.lt _ q)) vs
    · obtain ⟨⟨o, e1, e2, e3⟩, _⟩ := st; exact ⟨o, _, e1, e2, by decide, .of e3⟩
  | tuple ys =>
    cases e
    obtain ⟨a, vs, n, rfl, _, ho, q⟩ := r.inv
    have hl : s.heap.IsTuple a vs := ⟨_, ho, rfl, n, rfl⟩
    have lt := Heap.lt_size ho
    refine wpAny_pyIter_tuple hl (h _ vs q (JQ _ _) ⟨s.heap.objs.size :: a :: hAddr A, fun i h => h.IsTupleIter s.heap.objs.size a i ∧ h.IsTuple a vs ∧ HOk hm A h, ?_, ⟨⟨_, Heap.get?_push_size _ rfl, rfl, rfl⟩, hl.push _, hk.at fun b hb => JQ _ _ b⟩, fp_ok hk lt, fun i h st => ?_⟩)
    · rw [← q.size]; exact Uk _ a (Nat.ne_of_lt lt) (fun q => Nat.lt_irrefl _ (hk.lt _ q)) vs
    · obtain ⟨⟨o, e1, e2, e3⟩, _⟩ := st; exact ⟨o, _, e1, e2, by decide, .of e3⟩
  | _ => cases e
theorem Ws {n : Int} {r : Addr} {t1 t2 t3 : Tok} (hk : HOk false A s.heap) (hr : IsRange s.heap r 0 n 1 t1 t2 t3) (hn : -(lim : Int) < n ∧ n < lim) {Q : Value → Shared → Prop} {E : Value → Shared → Prop}
    (h : ∀ h', Keep s.heap h' → Itr prog w A s.heap.objs.size n.toNat (fun i v => ∃ t, v = .int i t) h' .none → Q (.ref s.heap.objs.size) { s with heap := h' }) : wpAny (model prog w) A (pyIter (.ref r)) Q E s := by
  rw [Qk] at hn
  have hz : Builtin.Range.rangeSize 0 n 1 = ((n.toNat : Nat) : Int) := by rw [rangeSize_one]; split <;> lia
  refine wpAny_pyIter_range hr (small_one (by lia) (by lia) (by lia) (by lia)) (h _ (JQ _ _) ?_)
  refine ⟨[s.heap.objs.size], fun i h => IsRangeIter h s.heap.objs.size (0 + (i : Nat) * 1) ((n.toNat : Int) - (i : Nat)) 1, ?_, ?_, fun b hb => ?_, fun i h st => ⟨_, _, st, rfl, by decide, .of rfl⟩⟩
  · have := LCg.range_walks (prog := prog) (w := w) (A := A) (I := s.heap.objs.size) hk.none 0 n.toNat
    simpa only [Int.zero_add] using this
  · show IsRangeIter _ _ _ _ _; rw [hz]; simpa using Heap.get?_push_size _ rfl
  · rw [List.mem_singleton.mp hb, Heap.size_push]; exact ⟨Nat.lt_succ_self _, .inl rfl⟩
end
end TC

namespace TC
open PySem PySem.W PyProof.Rows

section
variable {prog : Program} {w : World} {A : Around} {E : Value → Shared → Prop} {s : Shared} {r : Addr} {n : Nat} {P : Nat → Value → Prop}
theorem ZBw {Q : Bool → Shared → Prop} (hT : s.TypeIs (.ref r) "dict") (h : Q false s) : wpAny (model prog w) A (Builtin.List.listLengthHint (.ref r)) Q E s := by
  unfold Builtin.List.listLengthHint
  refine wpAny_bind (wpAny_specialOf hT PySem.F.slot_dict_len.lookup ?_)
  generalize hid : ("dict.__len__" : String) = id0
  wp_delta
  rw [show splitId id0 = some ("dict", "__len__") from by subst hid; decide +kernel]
  subst hid
  refine wpAny_bind (wpAny_isInstance (T := "dict") (b := true) hT (by rw [isSubtype_type]; kernel_rfl) ?_)
  refine wpAny_ite_split (fun hab => absurd hab (by decide)) (fun _ => ?_)
  refine wpAny_ite_split (fun _ => ?_) (fun hab => absurd (by decide +kernel) hab)
  exact wpAny_bind (wpAny_typeOf hT (wpAny_pure h))
theorem ZBt {R : Result → Shared → Prop} {fp : List Addr} {St : Nat → Heap → Prop} {oI : Obj} {S : Addr} {c₀ : Nat} (hT : s.TypeIs (.ref r) "dict") (hit : ∀ (E : Value → Shared → Prop) (Q : Value → Shared → Prop), Q (.ref s.heap.objs.size) { s with heap := s.heap.push oI } → wpAny (model prog w) A.in1 (pyIter (.ref r)) Q E s)
    (W : Walks prog w A.in1 s.heap.objs.size fp [s.heap.objs.size] n P St) (st : St 0 (s.heap.push oI)) (hSf : S ∉ fp) (hSr : S ≠ r) (hS : s.heap.get? S = some { cls := .type "list", data := .seq #[] c₀ }) (hn : n ≤ sizeLine)
    (hR : ∀ h' tk acc' c', (∀ b o, b ≠ S → s.heap.get? b = some o → h'.get? b = some o) → h'.get? S = some { cls := .type "list", dict := none, data := .seq acc' c', slots := #[] } → ItemsOf P acc' n → R (.ok (.ret .none)) { s with heap := h', toks := tk }) :
    wpAny (model prog w) A.in1 (Builtin.List.listExtendWith (.ref S) (.ref r) .none) (fun fin s' => match fin with | .done f => R (.ok f) s' | .again c' => c'.quiet = true ∧ codeAny (model prog w) A c' R s') (fun e s' => R (.error e) s') s := by
  have go : ∀ (h : Heap) (c₁ tk : Nat), St 0 h → (∀ b o, b ≠ S → s.heap.get? b = some o → h.get? b = some o) → h.get? S = some { cls := .type "list", data := .seq #[] c₁ } → codeAny (model prog w) A (.builtin "list.extend.loop" ⟨[.ref S, .ref s.heap.objs.size, .none], []⟩) R { s with heap := h, toks := tk } := fun h c₁ tk hst hk hS₁ => by
    refine codeAny_extend_loopS W.toS hn S hSf .none n 0 _ #[] c₁ rfl (Nat.zero_le _) hst hS₁ (ItemsOf.nil _) fun s' acc' c' hm hS' hacc => ?_
    rw [Moved.eq_with hm]
    refine hR s'.heap s'.toks acc' c' (fun b o hb e => hm.heap b o (fun q => ?_) (hk b o hb e)) hS' hacc
    rcases List.mem_cons.mp q with q | q
    · exact hb q
    · exact absurd (Heap.lt_size e) (by rw [List.mem_singleton.mp q]; exact Nat.lt_irrefl _)
  unfold Builtin.List.listExtendWith
  refine wpAny_bind (wpAny_typeOf hT ?_)
  rw [show Builtin.List.listSameRef (.ref S) (.ref r) = false from by simp [Builtin.List.listSameRef, hSr]]
  refine wpAny_ite_split (fun q => absurd q (by decide)) fun _ => ?_
  refine wpAny_bind (hit _ _ ?_)
  have hS₁ := Heap.get?_push_of_some oI hS
  have hT' : Shared.TypeIs { s with heap := s.heap.push oI } (.ref r) "dict" := by obtain ⟨o, e, q⟩ := hT; exact ⟨o, Heap.get?_push_of_some _ e, q⟩
  refine wpAny_bind (wpAny_holding (ZBw hT' ?_))
  refine wpAny_ite_split (fun _ => ?_) fun q => absurd (by decide) q
  refine wpAny_bind (wpAny_rule (wpAny_bind ?_))
  show wpAny _ _ (updateSeq S (·.push .none) >>= fun _ => updateSeq S (·.pop)) _ _ _
  refine wpAny_bind (wpAny_updateSeq hS₁ rfl ?_)
  have hS₂ := Heap.get?_update_self (Obj.mapSeq (·.push Value.none)) hS₁ rfl
  refine wpAny_updateSeq (hz := by seq_fits) hS₂ rfl ?_
  have hS₃ := Heap.get?_update_self (Obj.mapSeq (·.pop)) hS₂ rfl
  have two : ∀ b, b ≠ S → (((s.heap.push oI).update S (Obj.mapSeq (·.push Value.none))).update S (Obj.mapSeq (·.pop))).get? b = (s.heap.push oI).get? b := fun b hb => (Heap.get?_update_other _ _ (Ne.symm hb)).trans (Heap.get?_update_other _ _ (Ne.symm hb))
  exact wpAny_pure ⟨plainId_quiet PySem.F.plain_extend_loop _, go _ _ _ (W.frame 0 _ _ st fun b hb o e => (two b fun q => hSf (q ▸ hb)).trans e) (fun b o hb e => (two b hb).trans (Heap.get?_push_of_some _ e)) hS₃⟩
theorem ZCm {K : Type} [DecidableEq K] {knd : KeyKind prog w K} {d : Addr} {kvs : List (K × Value)} {Q : Value → Shared → Prop} (hh : A.handled = none) (lo : (d == sysModules) = false) (hm : s.heap.DictOf knd d kvs) (hn : kvs.length ≤ sizeLine)
    (hQ : ∀ h' tk acc' c', (∀ b o, s.heap.get? b = some o → h'.get? b = some o) → h'.get? s.heap.objs.size = some { cls := .type "list", dict := none, data := .seq acc' c', slots := #[] } → ItemsOf (fun i v => ∃ k x, kvs[i]? = some (k, x) ∧ knd.is k v = true) acc' kvs.length → Q (.ref s.heap.objs.size) { s with heap := h', toks := tk }) :
    wpAny (model prog w) A (call (.type "list") [.ref d]) Q E s := by
  refine callType_codes (Q₁ := fun obj s₁ => obj = .ref s.heap.objs.size ∧ s₁ = { s with heap := s.heap.push { cls := .type "list", data := .seq #[] } }) PySem.F.called_list (PySem.F.typeCall_list_1 _) PySem.F.entry_list_init (code_list_new _ ⟨rfl, rfl⟩) fun obj s₁ h₁ => ?_
  obtain ⟨rfl, rfl⟩ := h₁
  have hS : (s.heap.push { cls := .type "list", data := .seq #[] }).get? s.heap.objs.size = some { cls := .type "list", data := .seq #[] } := Heap.get?_push_size _ rfl
  refine ⟨⟨_, hS, rfl⟩, PySem.F.args_list_init_2 _ _, ?_⟩
  show wpAny _ _ (do let old ← Builtin.List.listItems (.ref s.heap.objs.size); Builtin.List.listUpdate (.ref s.heap.objs.size) (fun _ => #[]); letGo old.toList.reverse; Builtin.List.listExtendWith (.ref s.heap.objs.size) (.ref d) .none) _ _ _
  refine wpAny_bind ?_
  unfold Builtin.List.listItems
  refine wpAny_bind (wpAny_seqItems hS rfl (wpAny_pure ?_))
  show wpAny _ _ (updateSeq s.heap.objs.size (fun _ => #[]) >>= fun _ => letGo (#[] : Array Value).toList.reverse >>= fun _ => Builtin.List.listExtendWith (.ref s.heap.objs.size) (.ref d) .none) _ _ _
  refine wpAny_bind (wpAny_updateSeq hS rfl ?_)
  have hS₂ := Heap.get?_update_self (Obj.mapSeq (fun _ => (#[] : Array Value))) hS rfl
  obtain ⟨ep, hm⟩ := hm.dictAt
  have lt := hm.lt_size
  have oth : ∀ b o, s.heap.get? b = some o → ((s.heap.push { cls := .type "list", data := .seq #[] }).update s.heap.objs.size (Obj.mapSeq (fun _ => (#[] : Array Value)))).get? b = some o :=
    fun b o e => (Heap.get?_update_other _ _ (Nat.ne_of_gt (Heap.lt_size e))).trans (Heap.get?_push_of_some _ e)
  have hm' := hm.keep oth
  generalize hg : (s.heap.push { cls := .type "list", data := .seq #[] }).update s.heap.objs.size (Obj.mapSeq (fun _ => (#[] : Array Value))) = g at hS₂ oth hm' ⊢
  refine wpAny_bind (wpAny_letGo ?_)
  have ltg := hm'.lt_size
  refine ZBt (s := { s with heap := g }) (A := A.in1) hm'.dictOf.typeIs (fun _ _ hq => wpAny_pyIter_dict (s := { s with heap := g }) lo hm' hq) (Walks.dictKeys (A := A.in1.in1) (knd := knd) hh _ d (Nat.ne_of_lt ltg) kvs ep) ⟨⟨_, Heap.get?_push_size _ rfl, rfl, rfl⟩, hm'.push _⟩ (fun q => ?_) (Nat.ne_of_gt lt) hS₂ hn fun h' tk acc' c' hk hS' hacc => ?_
  · rcases List.mem_cons.mp q with q | q
    · exact absurd (Heap.lt_size hS₂) (by rw [q]; exact Nat.lt_irrefl _)
    · exact absurd (List.mem_singleton.mp q) (Nat.ne_of_gt lt)
  · exact ⟨rfl, hQ h' tk acc' c' (fun b o e => hk b o (Nat.ne_of_lt (Heap.lt_size e)) (oth b o e)) hS' hacc⟩
end
end TC

namespace TC
open PySem PySem.W PyProof.Rows

inductive TK (h : Heap) (v : Value) (t : List Int) : Prop
  | mk (a : Addr) (items : Array Value) (m : Nat) : v = .ref a → h.get? a = some (tupObj items m) → IntsAre items.toList t → TK h v t
theorem TK.uniq {h : Heap} {v : Value} {t u : List Int} (x : TK h v t) (y : TK h v u) : t = u := by
  obtain ⟨a, is, m, rfl, h1, h2⟩ := x
  obtain ⟨b, js, n, e, h3, h4⟩ := y
  cases e
  rw [h1] at h3
  cases h3
  rw [← h2.nums, ← h4.nums]
noncomputable def tkOf (h : Heap) (v : Value) : Option (List Int) := @dite _ (∃ t, TK h v t) (Classical.propDecidable _) (fun q => some (Classical.choose q)) fun _ => none
theorem VV {h : Heap} {v : Value} {t : List Int} (r : TK h v t) : tkOf h v = some t := by
  unfold tkOf
  rw [dif_pos ⟨t, r⟩]
  exact congrArg some ((Classical.choose_spec (⟨t, r⟩ : ∃ t, TK h v t)).uniq r)
noncomputable def tkind (h : Heap) : KeyKind where
  α := List Int
  blt a b := decide (a < b)
  irrefl a := decide_eq_false (List.lt_irrefl a)
  trans a b c h1 h2 := decide_eq_true (List.lt_trans (of_decide_eq_true h1) (of_decide_eq_true h2))
  negTrans a b c h := by
    by_cases hab : a < b
    · exact .inl (decide_eq_true hab)
    · exact .inr (decide_eq_true (List.lt_of_le_of_lt (List.not_lt.mp hab) (of_decide_eq_true h)))
  total a b h1 h2 := List.le_antisymm (List.not_lt.mp (of_decide_eq_false h2)) (List.not_lt.mp (of_decide_eq_false h1))
  keyOf := tkOf h
  dflt := []
section
variable {prog : Program} {w : World} {A : Around} {E : Value → Shared → Prop} {s : Shared}
theorem GD {b : Bool} {a c : Int} {t u : Tok} {Q : Bool → Shared → Prop} (h : Q (decide (a < c)) s) : wpAny (model prog w) A (oneLt' b (.int a t) (.int c u)) Q E s := by
  cases b with
  | true => exact oneLt_int h
  | false =>
    rw [oneLt'_eq, if_neg (by decide)]
    exact wpAny_bind (wpAny_mono (show wpAny (model prog w) A (compareOp .Lt (.int a t) (.int c u)) (fun v s' => v = .bool (decide (a < c)) ∧ s' = s) E s from PyProof.Rows.lt_int ⟨rfl, rfl⟩) (fun v s' h' => by obtain ⟨rfl, rfl⟩ := h'; exact wpAny_truthy_bool h) fun _ _ e => e)
theorem ZFc {n : Int} {a b : List Int} : decide (n :: a < n :: b) = decide (a < b) := decide_eq_decide.mpr ⟨fun h => (List.cons_lt_cons_iff.mp h).elim (fun h => absurd h (Int.lt_irrefl n)) (·.2), fun h => List.cons_lt_cons_iff.mpr (.inr ⟨rfl, h⟩)⟩
theorem cons_lt' {n m : Int} (ne : n ≠ m) {a b : List Int} : decide (n :: a < m :: b) = decide (n < m) := decide_eq_decide.mpr ⟨fun h => (List.cons_lt_cons_iff.mp h).elim id fun h => absurd h.1 ne, fun h => List.cons_lt_cons_iff.mpr (.inl h)⟩
theorem ZCh {body : (Value × Value) × Nat → Option Bool × Unit → Sem (ForInStep (Option Bool × Unit))}
    (hb : ∀ p q i, body ((p, q), i) (none, ()) = (do if !(← eqBool p q) then (do let r ← oneLt' (true && i == 0) p q; pure (.done (some r, ()))) else pure (.yield (none, ())))) {ps : List Value} {a : List Int} (r : IntsAre ps a) :
    ∀ {qs : List Value} {b : List Int} (i : Nat), IntsAre qs b → wpAny (model prog w) A (forIn ((ps.zip qs).zipIdx i) (none, ()) body) (fun c s' => s' = s ∧ (match c.1 with | some x => x | none => decide (a.length < b.length)) = decide (a < b)) E s := by
  induction r with
  | nil =>
    intro qs b i r2
    rw [List.zip_nil_left, List.zipIdx_nil, List.forIn_nil]
    refine wpAny_pure ⟨rfl, ?_⟩
    cases r2 with
    | nil => exact (decide_eq_false (Nat.lt_irrefl _)).trans (decide_eq_false (List.lt_irrefl [])).symm
    | cons m u r2 => exact (decide_eq_true (Nat.succ_pos _)).trans (decide_eq_true (List.nil_lt_cons _ _)).symm
  | cons n t r ih =>
    intro qs b i r2
    cases r2 with
    | nil =>
      rw [List.zip_nil_right, List.zipIdx_nil, List.forIn_nil]
      exact wpAny_pure ⟨rfl, (decide_eq_false (Nat.not_lt_zero _)).trans (decide_eq_false (List.not_lt_nil _)).symm⟩
    | cons m u r2 =>
      rw [List.zip_cons_cons, List.zipIdx_cons, List.forIn_cons, hb]
      refine wpAny_bind (wpAny_bind (wpAny_eqBool_int ?_))
      by_cases e : n = m
      · subst e
        rw [beq_self_eq_true]
        refine wpAny_pure ?_
        refine wpAny_mono (ih (i + 1) r2) (fun c s' h' => ⟨h'.1, ?_⟩) fun _ _ e => e
        rw [ZFc, ← h'.2]
        cases c.1 with
        | some x => rfl
        | none => exact decide_eq_decide.mpr Nat.succ_lt_succ_iff
      · rw [beq_eq_false_iff_ne.mpr e]
        exact wpAny_bind (GD (wpAny_pure (wpAny_pure ⟨rfl, (cons_lt' e).symm⟩)))
theorem tup_lt {x y : Value} {a b : List Int} {Q : Bool → Shared → Prop} (hx : TK s.heap x a) (hy : TK s.heap y b) (h : Q (decide (a < b)) s) : wpAny (model prog w) A (keyLt' (tuples' true) x y) Q E s := by
  obtain ⟨p, xs, m, rfl, h1, r1⟩ := hx
  obtain ⟨q, ys, n, rfl, h2, r2⟩ := hy
  show wpAny (model prog w) A (do
    let xs ← Builtin.List.listItems (.ref p); let ys ← Builtin.List.listItems (.ref q)
    for ((p, q), i) in (xs.toList.zip ys.toList).zipIdx do
      if !(← eqBool p q) then return ← oneLt' (true && i == 0) p q
    return xs.size < ys.size) Q E s
  refine wpAny_bind (listItems_at h1 rfl (wpAny_bind (listItems_at h2 rfl ?_)))
  refine wpAny_bind (wpAny_mono (ZCh (fun p q i => ?_) r1 0 r2) (fun c s' h' => ?_) fun _ _ e => e)
  · rfl
  · obtain ⟨rfl, e⟩ := h'
    have l1 := r1.length
    have l2 := r2.length
    rw [Array.length_toList] at l1 l2
    rw [← e, ← l1, ← l2] at h
    obtain ⟨c, _⟩ := c
    cases c with
    | some x => exact wpAny_pure h
    | none => exact wpAny_pure h
inductive TKs (h : Heap) : List Value → List (List Int) → Prop
  | nil : TKs h [] []
  | cons {v : Value} {t : List Int} {vs : List Value} {ts : List (List Int)} : TK h v t → t ≠ [] → TKs h vs ts → TKs h (v :: vs) (t :: ts)
theorem TK.first {v : Value} {t : List Int} {Q : Option Value → Shared → Prop} (r : TK s.heap v t) (ne : t ≠ []) (h : ∀ n u, Q (some (.int n u)) s) : wpAny (model prog w) A (firstOfTuple' v) Q E s := by
  obtain ⟨a, xs, m, rfl, ho, r⟩ := r
  show wpAny (model prog w) A (do
    if (← typeOf (.ref a)) != .type "tuple" then return none
    return (← Builtin.List.listItems (.ref a))[0]?) Q E s
  refine wpAny_bind (wpAny_typeOf (T := "tuple") ⟨_, ho, rfl⟩ ?_)
  rw [if_neg (by decide)]
  refine wpAny_bind (listItems_at ho rfl (wpAny_pure ?_))
  rw [← Array.getElem?_toList]
  generalize xs.toList = l at r
  cases r with
  | nil => exact absurd rfl ne
  | cons n u r => exact h n u
theorem TKs.firsts {vs : List Value} {ts : List (List Int)} (r : TKs s.heap vs ts) : ∀ {Q : List (Option Value) → Shared → Prop}, (∀ fs ns, IntsAre fs ns → fs.length = vs.length → Q (fs.map some) s) → wpAny (model prog w) A (vs.mapM firstOfTuple') Q E s := by
  induction r with
  | nil => intro Q h; rw [List.mapM_nil]; exact wpAny_pure (h [] [] .nil rfl)
  | cons a ne _ ih =>
    intro Q h
    rw [List.mapM_cons]
    exact wpAny_bind (a.first ne fun n u => wpAny_bind (ih fun fs ns I l => wpAny_pure (h (.int n u :: fs) (n :: ns) (.cons n u I) (congrArg Nat.succ l))))
theorem TKs.length {h : Heap} {vs : List Value} {ts : List (List Int)} (r : TKs h vs ts) : vs.length = ts.length := by
  induction r with
  | nil => rfl
  | cons _ _ _ ih => exact congrArg Nat.succ ih
theorem TKs.kind {vs : List Value} {ts : List (List Int)} {Q : SortKind → Shared → Prop} (r : TKs s.heap vs ts) (l : 2 ≤ vs.length) (h : Q (tuples' true) s) : wpAny (model prog w) A (keyKind' vs.toArray) Q E s := by
  rw [keyKind'_eq, List.mapM_toArray, map_eq_pure_bind]
  refine wpAny_bind (wpAny_bind (r.firsts fun fs ns I lf => wpAny_pure ?_))
  rw [if_pos (by rw [List.all_toArray, List.all_map]; exact List.all_eq_true.mpr fun _ _ => rfl)]
  refine wpAny_bind (wpAny_rule ?_)
  have hfm : ((fs.map some).toArray.filterMap id) = fs.toArray := by rw [List.filterMap_toArray, List.filterMap_map]; exact congrArg List.toArray (List.filterMap_some)
  rw [hfm, oneTypeOnly'_eq, List.mapM_toArray, map_eq_pure_bind, mapM_typeOf_ints I]
  cases I with
  | nil => exact absurd (lf ▸ l) (by decide)
  | cons n u I =>
    refine wpAny_bind (wpAny_bind (wpAny_bind (wpAny_pure (wpAny_pure ?_))))
    show wpAny _ A (pure (if ((List.map (fun _ => Value.type "int") (Value.int n u :: _)).toArray.all fun x => x == Value.type "int") = true then some (Value.type "int") else none)) _ E s
    rw [if_pos (by rw [List.all_toArray, List.all_map]; exact List.all_eq_true.mpr fun _ _ => (by decide : (Value.type "int" == Value.type "int") = true))]
    exact wpAny_pure (wpAny_pure h)

structure SB (a₀ : Array Keyed) (st : SortSt) : Prop where
  perm : (arrOf st).Perm a₀
  kind : kindOf st = tuples' true
  failed : failedOf st = none
  pend : pendingOf st = #[]
structure KD (h : Heap) (a₀ : Array Keyed) : Prop where
  keys : ∀ p ∈ a₀.toList, ∃ t, TK h p.1 t
  nd : (a₀.toList.map fun p => tkOf h p.1).Nodup
variable {a₀ : Array Keyed} {st : SortSt}
theorem SB.size (B : SB a₀ st) : (arrOf st).size = a₀.size := B.perm.size_eq
theorem SB.arr (B : SB a₀ st) {xs : Array Keyed} (p : xs.Perm (arrOf st)) : SB a₀ (setArr st xs) := ⟨p.trans B.perm, B.kind, B.failed, B.pend⟩
noncomputable abbrev key (h : Heap) (xs : Array Keyed) (i : Nat) : List Int := KK (tkind h) xs i
theorem SB.at (B : SB a₀ st) (D : KD s.heap a₀) {i : Nat} (hi : i < a₀.size) : ∃ x p, (arrOf st)[i]? = some (x, p) ∧ TK s.heap x (key s.heap (arrOf st) i) := by
  have hi' : i < (arrOf st).size := B.size ▸ hi
  have e : (arrOf st)[i]? = some (arrOf st)[i] := getElem?_pos _ i hi'
  obtain ⟨t, ht⟩ := D.keys (arrOf st)[i] ((Array.perm_iff_toList_perm.mp B.perm).mem_iff.mp (by simp))
  refine ⟨(arrOf st)[i].1, (arrOf st)[i].2, e, ?_⟩
  have : key s.heap (arrOf st) i = t := by
    unfold key KK; rw [e]; exact congrArg (Option.getD · []) (VV ht)
  rw [this]; exact ht
theorem SB.lt (B : SB a₀ st) (D : KD s.heap a₀) {i j : Nat} (hi : i < a₀.size) (hj : j < a₀.size) {Q : Option Bool → SortSt → Prop} (h : Q (some (decide (key s.heap (arrOf st) i < key s.heap (arrOf st) j))) st) : PyProof.Rows.wpS (model prog w) A E s (ltAt' i j) Q st := by
  obtain ⟨x, p, e1, hx⟩ := B.at D hi
  obtain ⟨y, q, e2, hy⟩ := B.at D hj
  rw [ltAt'_eq]
  refine wpS_bind (wpS_get ?_)
  show PyProof.Rows.wpS _ _ _ _ (do let x ← elem' (arrOf st) i; let y ← elem' (arrOf st) j; lt' x y) Q st
  rw [elem'_eq, elem'_eq, e1, e2]
  refine wpS_bind (wpS_pure (wpS_bind (wpS_pure ?_)))
  rw [lt'_eq]
  refine wpS_bind (wpS_get ?_)
  rw [B.kind]
  exact wpS_bind (wpS_lift (wpAny_attempt (tup_lt hx hy ⟨rfl, wpS_pure h⟩)))
theorem SB.ne (B : SB a₀ st) (D : KD s.heap a₀) {i j : Nat} (hi : i < a₀.size) (hj : j < a₀.size) (ne : i ≠ j) : key s.heap (arrOf st) i ≠ key s.heap (arrOf st) j := by
  obtain ⟨x, p, e1, hx⟩ := B.at D hi
  obtain ⟨y, q, e2, hy⟩ := B.at D hj
  intro e
  have nd : ((arrOf st).toList.map fun p => tkOf s.heap p.1).Nodup := ((Array.perm_iff_toList_perm.mp B.perm).map _).nodup_iff.mpr D.nd
  have k1 : ((arrOf st).toList.map fun p => tkOf s.heap p.1)[i]? = some (some (key s.heap (arrOf st) i)) := by rw [List.getElem?_map, Array.getElem?_toList, e1]; exact congrArg some (VV hx)
  have k2 : ((arrOf st).toList.map fun p => tkOf s.heap p.1)[j]? = some (some (key s.heap (arrOf st) i)) := by rw [List.getElem?_map, Array.getElem?_toList, e2, e]; exact congrArg some (VV hy)
  exact ne ((List.getElem?_inj (by rw [List.length_map, Array.length_toList, B.size]; exact hi) nd).mp (k1.trans k2.symm))
noncomputable def Up (h : Heap) (xs : Array Keyed) (k : Nat) : Prop := ∀ i j, i < j → j < k → key h xs i < key h xs j
noncomputable def Dn (h : Heap) (xs : Array Keyed) (k : Nat) : Prop := ∀ i j, i < j → j < k → key h xs j < key h xs i
theorem SB.gt (B : SB a₀ st) (D : KD s.heap a₀) {i j : Nat} (hi : i < a₀.size) (hj : j < a₀.size) (ne : i ≠ j) (h : decide (key s.heap (arrOf st) i < key s.heap (arrOf st) j) = false) : key s.heap (arrOf st) j < key s.heap (arrOf st) i :=
  Classical.byContradiction fun q => B.ne D hi hj ne (List.le_antisymm (List.not_lt.mp q) (List.not_lt.mp (of_decide_eq_false h)))
theorem ZEk (D : KD s.heap a₀) {a nr : Nat} {Q : AscSt → SortSt → Prop} (hn : nr ≤ a₀.size) (ha : 1 ≤ a) (le : a ≤ nr) (B : SB a₀ st) (u : Up s.heap (arrOf st) a)
    (h : ∀ n, a ≤ n → n ≤ nr → Up s.heap (arrOf st) n → (n = nr ∨ key s.heap (arrOf st) n < key s.heap (arrOf st) (n - 1)) → Q (none, n) st) : PyProof.Rows.wpS (model prog w) A E s (ascLoop a nr) Q st := by
  unfold ascLoop
  refine wpS_forRange (I := fun x c st' => st' = st ∧ c = (none, x) ∧ Up s.heap (arrOf st) x) ?_ ?_ ⟨rfl, rfl, u⟩
  · rintro x c st' l1 l2 ⟨rfl, rfl, u'⟩
    dsimp only
    refine wpS_bind (B.lt D (by lia) (by lia) ?_)
    cases e : decide (key s.heap (arrOf st') x < key s.heap (arrOf st') (x - 1)) with
    | true => exact wpS_pure (h x l1 (by lia) u' (.inr (of_decide_eq_true e)))
    | false =>
      refine wpS_pure ⟨rfl, rfl, fun i j lt hj => ?_⟩
      have gt := B.gt D (by lia) (by lia) (by lia) e
      by_cases c1 : j < x
      · exact u' i j lt c1
      · obtain rfl : j = x := by lia
        by_cases c2 : i = j - 1
        · rw [c2]; exact gt
        · exact List.lt_trans (u' i (j - 1) (by lia) (by lia)) gt
  · rintro c st' ⟨rfl, rfl, u'⟩
    rw [Nat.max_eq_right le] at u' ⊢
    exact h nr le (Nat.le_refl _) u' (.inl rfl)
theorem ZFe (D : KD s.heap a₀) {n nr : Nat} {Q : DescSt → SortSt → Prop} (hn : nr ≤ a₀.size) (h1 : 1 ≤ n) (le : n ≤ nr) (B : SB a₀ st) (u : Dn s.heap (arrOf st) n)
    (h : ∀ m, n ≤ m → m ≤ nr → Dn s.heap (arrOf st) m → Q (none, m, 0) st) : PyProof.Rows.wpS (model prog w) A E s (descLoop n nr) Q st := by
  unfold descLoop
  refine wpS_forRange (I := fun x c st' => st' = st ∧ c = (none, x, 0) ∧ Dn s.heap (arrOf st) x) ?_ ?_ ⟨rfl, rfl, u⟩
  · rintro x c st' l1 l2 ⟨rfl, rfl, u'⟩
    dsimp only
    refine wpS_bind (B.lt D (by lia) (by lia) ?_)
    cases e : decide (key s.heap (arrOf st') x < key s.heap (arrOf st') (x - 1)) with
    | true =>
      refine wpS_pure ⟨rfl, rfl, fun i j lt hj => ?_⟩
      have gt := of_decide_eq_true e
      by_cases c1 : j < x
      · exact u' i j lt c1
      · obtain rfl : j = x := by lia
        by_cases c2 : i = j - 1
        · rw [c2]; exact gt
        · exact List.lt_trans gt (u' i (j - 1) (by lia) (by lia))
    | false =>
      have gt := B.gt D (by lia) (by lia) (by lia) e
      refine wpS_bind (B.lt D (by lia) (by lia) ?_)
      rw [decide_eq_true gt]
      exact wpS_pure (h x l1 (by lia) u')
  · rintro c st' ⟨rfl, rfl, u'⟩
    rw [Nat.max_eq_right le] at u' ⊢
    exact h nr le (Nat.le_refl _) u'
theorem ZBo (D : KD s.heap a₀) {nr : Nat} {Q : Option Nat → SortSt → Prop} (hn : nr ≤ a₀.size) (h1 : 1 ≤ nr) (B : SB a₀ st)
    (h : ∀ m st', SB a₀ st' → 1 ≤ m → m ≤ nr → Up s.heap (arrOf st') m → Q (some m) st') : PyProof.Rows.wpS (model prog w) A E s (countRun' 0 nr) Q st := by
  rw [countRun0_eq]
  refine wpS_bind (ZEk D hn (Nat.le_refl 1) h1 B (fun i j lt hj => absurd (Nat.lt_one_iff.mp hj ▸ lt) (Nat.not_lt_zero i)) fun n n1 n2 u hor => ?_)
  dsimp only
  by_cases e : n = nr
  · rw [if_pos (beq_iff_eq.mpr e)]; exact wpS_pure (h n st B n1 n2 u)
  · rw [if_neg (fun q => e (beq_iff_eq.mp q))]
    by_cases gt : n > 1
    · rw [if_pos gt]
      have nl := Nat.lt_of_lt_of_le (Nat.sub_lt (Nat.zero_lt_of_lt gt) Nat.one_pos) (Nat.le_trans n2 hn)
      refine wpS_bind (B.lt D (Nat.lt_of_lt_of_le h1 hn) nl ?_)
      rw [decide_eq_true (u 0 (n - 1) (Nat.sub_pos_of_lt gt) (Nat.sub_lt (Nat.zero_lt_of_lt gt) Nat.one_pos))]
      exact wpS_pure (h n st B n1 n2 u)
    · rw [if_neg gt]
      obtain rfl : n = 1 := Nat.le_antisymm (Nat.le_of_not_lt gt) n1
      have lt := hor.resolve_left e
      unfold descPart
      refine wpS_bind (wpS_lift (wpAny_rule ⟨rfl, ?_⟩))
      refine wpS_bind (ZFe D hn (by lia) (by lia) B (fun i j l1 l2 => ?_) fun m m1 m2 d => ?_)
      · obtain rfl : i = 0 := by lia
        obtain rfl : j = 1 := by lia
        exact lt
      · dsimp only
        rw [if_neg (Nat.lt_irrefl 0)]
        unfold tail3
        refine wpS_bind (wpS_reverse ?_)
        have B' : SB a₀ (setArr st (mirror (arrOf st) 0 m ((m - 0) / 2))) := B.arr (mirror_perm _ _ _ _)
        have sz : m ≤ (arrOf st).size := by rw [B.size]; lia
        refine wpS_bind (ZEk D hn (by lia) m2 B' (fun i j l1 l2 => ?_) fun k k1 k2 u' _ => wpS_pure (h k _ B' (by lia) k2 u'))
        show key s.heap (mirror (arrOf st) 0 m ((m - 0) / 2)) i < key s.heap (mirror (arrOf st) 0 m ((m - 0) / 2)) j
        unfold key
        rw [KK_mirror sz, KK_mirror sz, if_pos ⟨Nat.zero_le _, by lia⟩, if_pos ⟨Nat.zero_le _, l2⟩]
        exact d _ _ (by lia) (by lia)
theorem mid_of {l r : Nat} (h : l < r) : ∃ d, (l + r) / 2 = d ∧ l ≤ d ∧ d < r := ⟨_, rfl, by lia, by lia⟩
theorem bub_up {f : Nat → List Int} {k l i j : Nat} (lk : l ≤ k) (u : ∀ i j, i < j → j < k → f i < f j) (lo : ∀ i, i < l → f i < f k) (hi : ∀ i, l ≤ i → i < k → f k < f i) (lt : i < j) (hj : j < k + 1) :
    (if i = l then f k else if l < i ∧ i ≤ k then f (i - 1) else f i) < if j = l then f k else if l < j ∧ j ≤ k then f (j - 1) else f j := by
  have jk := Nat.le_of_lt_succ hj
  have g2 : ∀ {x}, l < x → x ≤ k → (if x = l then f k else if l < x ∧ x ≤ k then f (x - 1) else f x) = f (x - 1) := fun h1 h2 => by rw [if_neg (Nat.ne_of_gt h1), if_pos ⟨h1, h2⟩]
  have g0 : ∀ {x}, x < l → (if x = l then f k else if l < x ∧ x ≤ k then f (x - 1) else f x) = f x := fun h1 => by rw [if_neg (Nat.ne_of_lt h1), if_neg fun q => Nat.lt_asymm h1 q.1]
  rcases Nat.lt_trichotomy i l with h | rfl | h
  · rw [g0 h]
    rcases Nat.lt_trichotomy j l with h' | rfl | h'
    · rw [g0 h']; exact u i j lt (Nat.lt_of_lt_of_le h' lk)
    · rw [if_pos rfl]; exact lo i h
    · rw [g2 h' jk]; exact u i (j - 1) (Nat.lt_of_lt_of_le h (Nat.le_sub_one_of_lt h')) (Nat.lt_of_lt_of_le (Nat.sub_lt (Nat.zero_lt_of_lt lt) Nat.one_pos) jk)
  · rw [if_pos rfl, g2 lt jk]; exact hi (j - 1) (Nat.le_sub_one_of_lt lt) (Nat.lt_of_lt_of_le (Nat.sub_lt (Nat.zero_lt_of_lt lt) Nat.one_pos) jk)
  · rw [g2 h (Nat.le_trans (Nat.le_of_lt lt) jk), g2 (Nat.lt_trans h lt) jk]
    exact u (i - 1) (j - 1) (Nat.sub_lt_sub_right (Nat.zero_lt_of_lt h) lt) (Nat.lt_of_lt_of_le (Nat.sub_lt (Nat.zero_lt_of_lt lt) Nat.one_pos) jk)
theorem bin_ok' (D : KD s.heap a₀) {n ok : Nat} {Q : Bool → SortSt → Prop} (hn : n ≤ a₀.size) (le : ok ≤ n) (h1 : 1 ≤ ok) (B : SB a₀ st) (u : Up s.heap (arrOf st) ok) (h : ∀ st', SB a₀ st' → Up s.heap (arrOf st') n → Q true st') : PyProof.Rows.wpS (model prog w) A E s (binarySort' 0 n ok) Q st := by
  rw [binarySort'_eq, Nat.max_eq_left h1]
  simp only [Nat.zero_add]
  refine wpS_bind (wpS_mono (wpS_forRange (I := fun k c st' => c = (none, ()) ∧ SB a₀ st' ∧ Up s.heap (arrOf st') k) (Q := fun c st' => c = (none, ()) ∧ SB a₀ st' ∧ Up s.heap (arrOf st') n) ?_ ?_ ⟨rfl, B, u⟩) ?_)
  · rintro k c st' l1 l2 ⟨rfl, B', u'⟩
    have hk : k < a₀.size := by lia
    refine wpS_bind (wpS_mono (wpS_forRange (I := fun x c st'' => st'' = st' ∧ ∃ l r, c = (none, l, r) ∧ l ≤ r ∧ r ≤ k ∧ r - l ≤ k - x ∧ (∀ i, i < l → key s.heap (arrOf st') i < key s.heap (arrOf st') k) ∧ ∀ i, r ≤ i → i < k → key s.heap (arrOf st') k < key s.heap (arrOf st') i)
      (Q := fun c st'' => st'' = st' ∧ ∃ l r, c = (none, l, r) ∧ l ≤ k ∧ (∀ i, i < l → key s.heap (arrOf st') i < key s.heap (arrOf st') k) ∧ ∀ i, l ≤ i → i < k → key s.heap (arrOf st') k < key s.heap (arrOf st') i) ?_ ?_
      ⟨rfl, 0, k, rfl, Nat.zero_le _, Nat.le_refl _, Nat.le_refl _, fun i q => absurd q (Nat.not_lt_zero _), fun i q1 q2 => absurd q2 (Nat.not_lt.mpr q1)⟩) ?_)
    · rintro x c st'' _ lx ⟨rfl, l, r, rfl, lr, rk, m, lo, hi⟩
      dsimp only
      by_cases ge : l ≥ r
      · rw [if_pos ge]
        obtain rfl : l = r := Nat.le_antisymm lr ge
        exact wpS_pure ⟨rfl, l, l, rfl, rk, lo, hi⟩
      · rw [if_neg ge]
        obtain ⟨d, ed, d1, d2⟩ := mid_of (Nat.lt_of_not_le ge)
        rw [ed]
        have dk := Nat.lt_of_lt_of_le d2 rk
        refine wpS_bind (B'.lt D hk (Nat.lt_trans dk hk) ?_)
        cases e : decide (key s.heap (arrOf st'') k < key s.heap (arrOf st'') d) with
        | true =>
          have lt := of_decide_eq_true e
          refine wpS_pure ⟨rfl, l, d, rfl, d1, Nat.le_of_lt dk, Nat.le_trans (Nat.le_sub_one_of_lt (Nat.sub_lt_sub_right d1 d2)) (Nat.sub_le_sub_right m 1), lo, fun i q1 q2 => ?_⟩
          rcases Nat.lt_or_eq_of_le q1 with c | rfl
          · exact List.lt_trans lt (u' _ i c q2)
          · exact lt
        | false =>
          have gt := B'.gt D hk (Nat.lt_trans dk hk) (Nat.ne_of_gt dk) e
          refine wpS_pure ⟨rfl, d + 1, r, rfl, d2, rk, Nat.pred_le_pred (Nat.le_trans (Nat.sub_le_sub_left d1 r) m), fun i q => ?_, hi⟩
          rcases Nat.lt_or_eq_of_le (Nat.le_of_lt_succ q) with c | rfl
          · exact List.lt_trans (u' i _ c dk) gt
          · exact gt
    · rintro c st'' ⟨rfl, l, r, rfl, lr, rk, m, lo, hi⟩
      obtain rfl : l = r := by lia
      exact ⟨rfl, l, l, rfl, rk, lo, hi⟩
    · rintro c st'' ⟨rfl, l, r, rfl, lk, lo, hi⟩
      show PyProof.Rows.wpS _ _ _ _ (do moveDown' k l; pure (ForInStep.yield (none, ()))) _ _
      rw [moveDown'_eq]
      refine wpS_bind (wpS_modify (wpS_pure ⟨rfl, B'.arr (bubble_perm _ _ _), fun i j lt hj => ?_⟩))
      have ks : k < (arrOf st'').size := by rw [B'.size]; exact hk
      show key s.heap (bubble (arrOf st'') k (k - l)) i < key s.heap (bubble (arrOf st'') k (k - l)) j
      unfold key
      rw [KK_bubble ks (by lia), KK_bubble ks (by lia), show k - (k - l) = l by lia]
      exact bub_up lk u' lo hi lt hj
  · rintro c st' ⟨rfl, B', u'⟩
    exact ⟨rfl, B', by rw [Nat.max_eq_right le] at u'; exact u'⟩
  · rintro c st' ⟨rfl, B', u'⟩
    exact wpS_pure (h st' B' u')
theorem ZGs (D : KD s.heap a₀) {Q : Unit → SortSt → Prop} (B : SB a₀ st) (h2 : 2 ≤ a₀.size) (h64 : a₀.size < 64) (h : ∀ st', (arrOf st').Perm a₀ → failedOf st' = none → Up s.heap (arrOf st') a₀.size → Q () st') : PyProof.Rows.wpS (model prog w) A E s sortRuns' Q st := by
  rw [sortRuns'_eq]
  refine wpS_bind (wpS_get ?_)
  dsimp only
  have hmr : minRun' a₀.size a₀.size 0 = a₀.size := by
    cases e : a₀.size with
    | zero => lia
    | succ f => rw [minRun'_succ, if_pos (e ▸ h64)]
  simp only [B.size, hmr]
  let Dn' : SortSt → Prop := fun st' => (arrOf st').Perm a₀ ∧ failedOf st' = none ∧ pendingOf st' = #[(0, a₀.size, 0)] ∧ Up s.heap (arrOf st') a₀.size
  have fin : ∀ st', SB a₀ st' → Up s.heap (arrOf st') a₀.size → Dn' (setPending st' ((pendingOf st').push (0, a₀.size, 0))) := fun st' B' u => ⟨B'.perm, B'.failed, by show (pendingOf st').push _ = _; rw [B'.pend]; rfl, u⟩
  refine wpS_bind (wpS_mono (wpS_forRange (I := fun x c st' => (x = 0 ∧ c = (none, 0) ∧ SB a₀ st') ∨ (1 ≤ x ∧ c = (none, a₀.size) ∧ Dn' st')) (Q := fun c st' => c = (none, a₀.size) ∧ Dn' st') ?_ ?_ (.inl ⟨rfl, rfl, B⟩)) ?_)
  · rintro x c st' _ hx (⟨rfl, rfl, B'⟩ | ⟨_, rfl, d⟩)
    · dsimp only
      rw [if_neg (by lia)]
      simp only [Nat.sub_zero, Nat.min_self, Nat.zero_add]
      refine wpS_bind (ZBo D (Nat.le_refl _) (by lia) B' fun m st2 B2 m1 m2 u2 => ?_)
      dsimp only
      have rest : ∀ st3, SB a₀ st3 → Up s.heap (arrOf st3) a₀.size → PyProof.Rows.wpS (model prog w) A E s (modify fun s => setPending s ((pendingOf s).push (0, a₀.size, 0))) (fun _ st' => Dn' st') st3 := fun st3 B3 u3 => wpS_modify (fin st3 B3 u3)
      by_cases lt : m < a₀.size
      · rw [if_pos lt]
        refine wpS_bind (wpS_lift (wpAny_rule ⟨rfl, ?_⟩))
        refine wpS_bind (bin_ok' D (Nat.le_refl _) m2 m1 B2 u2 fun st3 B3 u3 => ?_)
        simp only [Bool.not_true, Bool.false_eq_true, if_false]
        refine wpS_bind (wpS_get ?_)
        rw [B3.pend]
        exact wpS_bind (wpS_mono (rest st3 B3 u3) fun _ st' d => wpS_pure (.inr ⟨by lia, rfl, d⟩))
      · rw [if_neg lt]
        obtain rfl : m = a₀.size := by lia
        refine wpS_bind (wpS_get ?_)
        rw [B2.pend]
        exact wpS_bind (wpS_mono (rest st2 B2 u2) fun _ st' d => wpS_pure (.inr ⟨by lia, rfl, d⟩))
    · dsimp only
      rw [if_pos (Nat.le_refl _)]
      exact wpS_pure ⟨rfl, d⟩
  · rintro c st' (⟨hx, _, _⟩ | ⟨_, hc, d⟩)
    · lia
    · exact ⟨hc, d⟩
  · rintro c st' ⟨rfl, d⟩
    dsimp only
    refine wpS_bind (wpS_mono (wpS_forRange (I := fun _ c st'' => st'' = st' ∧ c = (none, ())) (Q := fun c st'' => st'' = st' ∧ c = (none, ())) ?_ (fun _ _ q => q) ⟨rfl, rfl⟩) ?_)
    · rintro x c st'' _ _ ⟨rfl, rfl⟩
      refine wpS_bind (wpS_get ?_)
      rw [if_pos (by rw [d.2.2.1]; exact Nat.le_refl 1)]
      exact wpS_pure ⟨rfl, rfl⟩
    · rintro c st'' ⟨rfl, rfl⟩
      exact wpS_pure (h _ d.1 d.2.1 d.2.2.2)
theorem TK.move {h h' : Heap} {v : Value} {t : List Int} (r : TK h v t) (k : ∀ a o, h.get? a = some o → h'.get? a = some o) : TK h' v t := by
  obtain ⟨a, xs, m, e, ho, r⟩ := r; exact ⟨a, xs, m, e, k a _ ho, r⟩
theorem TKs.move {h h' : Heap} {vs : List Value} {ts : List (List Int)} (r : TKs h vs ts) (k : ∀ a o, h.get? a = some o → h'.get? a = some o) : TKs h' vs ts := by
  induction r with
  | nil => exact .nil
  | cons a ne _ ih => exact .cons (a.move k) ne ih
theorem TKs.keys {h : Heap} {vs : List Value} {ts : List (List Int)} (r : TKs h vs ts) : vs.map (tkOf h) = ts.map some := by
  induction r with
  | nil => rfl
  | cons a _ _ ih => rw [List.map_cons, List.map_cons, ih, VV a]
theorem TKs.mem {h : Heap} {vs : List Value} {ts : List (List Int)} (r : TKs h vs ts) {v : Value} (hv : v ∈ vs) : ∃ t, TK h v t ∧ t ≠ [] := by
  induction r with
  | nil => exact nomatch hv
  | cons a ne _ ih =>
    rcases List.mem_cons.mp hv with rfl | hv
    · exact ⟨_, a, ne⟩
    · exact ih hv
theorem TKs.of {h : Heap} {vs : List Value} (m : ∀ v ∈ vs, ∃ t, TK h v t ∧ t ≠ []) : ∃ ts, TKs h vs ts := by
  induction vs with
  | nil => exact ⟨[], .nil⟩
  | cons v vs ih =>
    obtain ⟨t, a, ne⟩ := m v (.head _)
    obtain ⟨ts, r⟩ := ih fun v hv => m v (.tail _ hv)
    exact ⟨t :: ts, .cons a ne r⟩
theorem TKs.kd {h : Heap} {vs : List Value} {ts : List (List Int)} (r : TKs h vs ts) (nd : ts.Nodup) : KD h (pairsOf vs) := by
  refine ⟨fun p hp => ?_, ?_⟩
  · rw [pairsOf_toList] at hp
    obtain ⟨t, a, _⟩ := r.mem (mem_zip_self hp).2
    exact ⟨t, a⟩
  · have e : (pairsOf vs).toList.map (fun p => tkOf h p.1) = ts.map some := by
      rw [pairsOf_toList, ← r.keys]
      show (vs.zip vs).map (tkOf h ∘ Prod.fst) = _
      rw [← List.map_map, List.map_fst_zip (Nat.le_refl _)]
    rw [e]
    exact List.Pairwise.map _ (fun a b ne e => ne (Option.some.inj e)) nd
theorem TKs.out {h : Heap} {vs : List Value} {ts : List (List Int)} (r : TKs h vs ts) {xs : Array Keyed} (p : xs.Perm (pairsOf vs)) (u : Up h xs (pairsOf vs).size) : ∃ ts', TKs h (xs.map (·.2)).toList ts' ∧ ts'.Perm ts ∧ ts'.Pairwise (· < ·) := by
  have pl : xs.toList.Perm (vs.zip vs) := by rw [← pairsOf_toList]; exact Array.perm_iff_toList_perm.mp p
  have same : ∀ q ∈ xs.toList, q.1 = q.2 ∧ q.1 ∈ vs := fun q hq => mem_zip_self (pl.mem_iff.mp hq)
  have e2 : (xs.map (·.2)).toList = xs.toList.map (·.2) := Array.toList_map
  have pv : ((xs.map (·.2)).toList).Perm vs := by
    rw [e2]
    have := pl.map (·.2)
    rwa [List.map_snd_zip (Nat.le_refl _)] at this
  obtain ⟨ts', r'⟩ := TKs.of (h := h) (vs := (xs.map (·.2)).toList) fun v hv => r.mem (pv.mem_iff.mp hv)
  have pt : ts'.Perm ts := by
    have := pv.map (tkOf h)
    rw [r'.keys, r.keys] at this
    have q := this.filterMap id
    rw [List.filterMap_map, List.filterMap_map] at q
    exact (List.filterMap_some (l := ts') ▸ List.filterMap_some (l := ts) ▸ q : _)
  refine ⟨ts', r', pt, ?_⟩
  rw [List.pairwise_iff_getElem]
  intro i j hi hj lt
  have sz : xs.size = ts'.length := by rw [← r'.length, Array.length_toList, Array.size_map]
  have kv : ∀ k (hk : k < ts'.length), key h xs k = ts'[k] := fun k hk => by
    have hx : k < xs.size := sz ▸ hk
    have e : xs[k]? = some xs[k] := getElem?_pos _ k hx
    have ks := congrArg (·[k]?) r'.keys
    simp only [List.getElem?_map, List.getElem?_eq_getElem hk, e2] at ks
    rw [Array.getElem?_toList, e] at ks
    have s1 := (same xs[k] (by simp)).1
    unfold key KK
    rw [e]
    show (tkOf h xs[k].1).getD [] = _
    rw [s1]
    have := Option.some.inj ks
    rw [show tkOf h xs[k].2 = some ts'[k] from this]
    rfl
  rw [← kv i hi, ← kv j hj]
  exact u i j lt (by rw [← p.size_eq, sz]; exact hj)
theorem WV {α : Type} {a b : List α} (e : a.map some = b.map some) : a = b := by
  have := congrArg (List.filterMap id) e
  rw [List.filterMap_map, List.filterMap_map] at this
  exact (List.filterMap_some (l := a)).symm.trans (this.trans (List.filterMap_some (l := b)))
theorem Hu {a : Addr} {vs : List Value} {ts : List (List Int)} {n : Nat} {P : PySem.Fin → Shared → Prop} (ho : s.heap.get? a = some (seqObj "list" vs.toArray n)) (r : TKs s.heap vs ts) (na : ∀ v ∈ vs, v ≠ .ref a) (nd : ts.Nodup) (h64 : vs.length < 64)
    (h : ∀ out ts', (∀ v ∈ out.toList, v ∈ vs) → TKs s.heap out.toList ts' → ts'.Perm ts → ts'.Pairwise (· < ·) → P (.done (.ret .none)) { s with heap := sortedHeap s.heap a vs out }) : wpAny (model prog w) A (Builtin.«list.sort» ⟨[.ref a], []⟩) P E s := by
  rw [list_sort_plain]
  have ha : a < s.heap.objs.size := Heap.lt_size ho
  refine wpAny_bind (listItems_at ho rfl ?_)
  refine wpAny_bind (listUpdate_at ho rfl ?_)
  obtain ⟨e1, ho1⟩ : ∃ e1, (s.heap.update a (Obj.mapSeq fun _ => #[])).get? a = some (seqObj "list" #[] e1) := ⟨_, get?_update_seq ho (fun _ => #[])⟩
  refine wpAny_bind (seqEpoch_at ho1 rfl ?_)
  refine wpAny_bind (wpAny_newTuple ?_)
  refine wpAny_bind (wpAny_newList ?_)
  refine wpAny_holding ?_
  have ho6 : (((s.heap.update a (Obj.mapSeq fun _ => #[])).push (seqObj "tuple" vs.toArray 0)).push (seqObj "list" #[] 0)).get? a = some (seqObj "list" #[] e1) := Heap.get?_push_of_some _ (Heap.get?_push_of_some _ ho1)
  have kp6 : ∀ b o, b ≠ a → s.heap.get? b = some o → (((s.heap.update a (Obj.mapSeq fun _ => #[])).push (seqObj "tuple" vs.toArray 0)).push (seqObj "list" #[] 0)).get? b = some o := fun b o ne e => Heap.get?_push_of_some _ (Heap.get?_push_of_some _ ((Heap.get?_update_other _ _ (Ne.symm ne)).trans e))
  have mv : ∀ {us : List Value} {ws : List (List Int)}, (∀ v ∈ us, v ∈ vs) → TKs s.heap us ws → TKs (((s.heap.update a (Obj.mapSeq fun _ => #[])).push (seqObj "tuple" vs.toArray 0)).push (seqObj "list" #[] 0)) us ws := fun {us ws} sub r => by
    induction r with
    | nil => exact .nil
    | cons t ne _ ih =>
      obtain ⟨b, xs, m, rfl, hb, I⟩ := t
      exact .cons ⟨b, xs, m, rfl, kp6 b _ (fun e => na _ (sub _ (.head _)) (congrArg Value.ref e)) hb, I⟩ ne (ih fun v hv => sub v (.tail _ hv))
  have r6 := mv (fun _ q => q) r
  show wpAny (model prog w) A _ P E { s with heap := ((s.heap.update a (Obj.mapSeq fun _ => #[])).push (seqObj "tuple" vs.toArray 0)).push (seqObj "list" #[] 0) }
  dsimp only
  have hsz : vs.toArray.size = vs.length := List.size_toArray
  by_cases h2 : vs.toArray.size < 2
  · rw [if_pos h2, if_pos h2]
    refine wpAny_bind (wpAny_pure ?_)
    rw [StateT.run_pure]
    refine wpAny_bind (wpAny_pure ?_)
    dsimp only
    refine wpAny_bind (seqEpoch_at ho6 rfl ?_)
    refine wpAny_bind (listUpdate_at ho6 rfl ?_ (hsz2 := by rw [Array.size_map]; show (pairsOf vs).size ≤ _; rw [pairsOf_size, sizeLine_eq]; lia))
    simp only [bne_self_eq_false, Bool.false_eq_true, if_false]
    have eo : ((pairsOf vs).map fun x : Keyed => x.2).toList = vs := by
      rw [Array.toList_map, pairsOf_toList, List.map_snd_zip (Nat.le_refl _)]
    have fin := h ((pairsOf vs).map fun x : Keyed => x.2) ts (fun v hv => by rw [eo] at hv; exact hv) (by rw [eo]; exact r) (List.Perm.refl _)
    refine wpAny_pure (fin ?_)
    have l := r.length
    match ts, l with
    | [], _ => exact .nil
    | [t], _ => exact List.pairwise_singleton _ _
    | _ :: _ :: _, l => rw [hsz, l] at h2; exact absurd h2 (by simp)
  · rw [if_neg h2, if_neg h2]
    have l2 : 2 ≤ vs.length := by rw [← hsz]; lia
    refine wpAny_bind (r6.kind (s := { s with heap := _ }) l2 ?_)
    refine wpAny_bind (wpAny_mono (ZGs (s := { s with heap := ((s.heap.update a (Obj.mapSeq fun _ => #[])).push (seqObj "tuple" vs.toArray 0)).push (seqObj "list" #[] 0) }) (a₀ := pairsOf vs) (st := SortSt.mk' (tuples' true) (vs.toArray.zip vs.toArray) #[] 7 none)
      (Q := fun _ st' => (arrOf st').Perm (pairsOf vs) ∧ failedOf st' = none ∧ Up (((s.heap.update a (Obj.mapSeq fun _ => #[])).push (seqObj "tuple" vs.toArray 0)).push (seqObj "list" #[] 0)) (arrOf st') (pairsOf vs).size)
      (r6.kd nd) ⟨Array.Perm.refl _, rfl, rfl, rfl⟩ (by rw [pairsOf_size]; exact l2) (by rw [pairsOf_size]; exact h64) fun st' a1 a2 a3 => ⟨a1, a2, a3⟩) ?_ fun _ _ e => e)
    rintro ⟨⟨⟩, st'⟩ s' ⟨rfl, hp, hf, hu⟩
    dsimp only
    refine wpAny_bind (seqEpoch_at ho6 rfl ?_)
    refine wpAny_bind (listUpdate_at ho6 rfl ?_ (hsz2 := by refine Nat.le_trans (Nat.le_of_eq ((Array.size_map ..).trans (hp.size_eq.trans (pairsOf_size _)))) ?_; rw [sizeLine_eq]; lia))
    rw [hf]
    simp only [bne_self_eq_false, Bool.false_eq_true, if_false]
    obtain ⟨ts', q1, q2, q3⟩ := r6.out hp hu
    have pv : ((arrOf st').map (·.2)).toList.Perm vs := by
      rw [Array.toList_map]
      have := (Array.perm_iff_toList_perm.mp hp).map (·.2)
      rwa [pairsOf_toList, List.map_snd_zip (Nat.le_refl _)] at this
    obtain ⟨us, q4⟩ := TKs.of (h := s.heap) (vs := ((arrOf st').map (·.2)).toList) fun v hv => r.mem (pv.mem_iff.mp hv)
    have eu : us = ts' := by
      exact WV ((mv (fun v hv => pv.mem_iff.mp hv) q4).keys.symm.trans q1.keys)
    exact wpAny_pure (h _ ts' (fun v hv => pv.mem_iff.mp hv) (eu ▸ q4) q2 q3)
theorem Uf {l : Addr} {vs : List Value} {ts : List (List Int)} {Q : Value → Shared → Prop} (hl : s.heap.IsList l vs.toArray) (r : TKs s.heap vs ts) (nd : ts.Nodup) (h64 : vs.length < 64)
    (h : ∀ out ts', TKs s.heap out.toList ts' → ts'.Perm ts → ts'.Pairwise (· < ·) → Q (.ref (s.heap.objs.size + 1)) { s with heap := sortedAll s.heap vs out }) : wpAny (model prog w) A (call (.builtin "sorted") [.ref l]) Q E s := by
  refine Calls.call_function_entry kind_sorted plain_sorted entry_sorted (args_sorted1 _) ?_
  unfold Builtin.«sorted»
  refine wpAny_bind (m := checkCount "sorted" 1 1 _) (wpAny_pure ?_)
  refine wpAny_bind (collect_list hl ?_)
  refine wpAny_bind (wpAny_newList ?_)
  have hsz : ((s.heap.push (seqObj "list" #[] 0)).update s.heap.objs.size (Obj.mapSeq (· ++ vs.toArray))).objs.size = s.heap.objs.size + 1 := by
    rw [Heap.size_update, size_push']
  generalize hh : ((s.heap.push (seqObj "list" #[] 0)).update s.heap.objs.size (Obj.mapSeq (· ++ vs.toArray))) = h1 at *
  have kh : ∀ b o, s.heap.get? b = some o → h1.get? b = some o := fun b o e => by
    rw [← hh, Heap.get?_update_other _ _ (Nat.ne_of_gt (Heap.lt_size e))]; exact Heap.get?_push_of_some _ e
  have hoL : (h1.push (seqObj "list" vs.toArray 0)).get? (s.heap.objs.size + 1) = some (seqObj "list" vs.toArray 0) := by
    rw [← hsz]; exact Heap.get?_push_size _ rfl
  show wpAny _ _ _ _ _ { s with heap := h1.push (seqObj "list" vs.toArray 0) }
  rw [hsz]
  have rL : TKs (h1.push (seqObj "list" vs.toArray 0)) vs ts := r.move fun b o e => Heap.get?_push_of_some _ (kh b o e)
  have na : ∀ v ∈ vs, v ≠ .ref (s.heap.objs.size + 1) := fun v hv e => by
    obtain ⟨t, ⟨b, xs, m, e2, hb, _⟩, _⟩ := r.mem hv
    rw [e] at e2
    have := Heap.lt_size (Value.ref.inj e2 ▸ hb)
    exact absurd this (Nat.not_lt.mpr (Nat.le_succ _))
  refine wpAny_bind (wpAny_holding (wpAny_call_entry slot_list_sort ⟨_, hoL, rfl⟩ entry_list_sort (Hu (s := { s with heap := h1.push (seqObj "list" vs.toArray 0) }) hoL rL na nd h64 fun out ts' a0 a1 a2 a3 => ⟨_, rfl, ?_⟩) (args_list_sort _)))
  obtain ⟨us, q4⟩ := TKs.of (h := s.heap) (vs := out.toList) fun v hv => r.mem (a0 v hv)
  have eu : us = ts' := WV ((q4.move fun b o e => Heap.get?_push_of_some _ (kh b o e)).keys.symm.trans a1.keys)
  have := h out ts' (eu ▸ q4) a2 a3
  unfold sortedAll at this
  rw [hh] at this
  exact wpAny_pure ⟨_, rfl, this⟩
end
end TC

namespace TC
open PySem PySem.W PyProof.Rows
theorem VQ : isSubtype (.type "tuple") (.type "set") = pure false := by rw [isSubtype_type]; kernel_rfl
theorem Qp : isSubtype (.type "tuple") (.type "frozenset") = pure false := by rw [isSubtype_type]; kernel_rfl
section
variable {prog : Program} {w : World} {A : Around} {E : Value → Shared → Prop} {s : Shared}
set_option maxRecDepth 100000 in
set_option maxHeartbeats 3200000 in
theorem Hq {l : Addr} {items : Array Value} {nl : Nat} {ns : List Int} {Q : Value → Shared → Prop} (hh : A.handled = none) (hol : s.heap.get? l = some (tupObj items nl)) (hi : IntsAre items.toList ns) (hb : items.size + 1 < scanBound)
    (h : ∀ (h' : Heap) (tk : Nat), h'.SetOf (intKind prog w) s.heap.objs.size (fun k' => (firstMet (fun i => ns.getD i 0) items.size).any (· == k')) (firstMet (fun i => ns.getD i 0) items.size).length →
      (∀ b o, s.heap.get? b = some o → h'.get? b = some o) → Q (.ref s.heap.objs.size) { s with heap := h', toks := tk }) : wpAny (model prog w) A (call (.type "set") [.ref l]) Q E s := by
  obtain ⟨c, tl, hmro⟩ := PySem.F.called_set.mro
  have hmade := PySem.F.called_set.made
  have hsub := PySem.F.called_set.sub
  refine wpAny_call (codeAny_of_tree ?_)
  show wpAny _ _ (callAny (.type "set") _) _ _ _
  refine wpAny_pure ⟨Code.quiet_builtin _ (by decide +kernel), codeAny_builtin PySem.F.entry_type_call ?_⟩
  rw [Around.under_plain (weight_type_call_type "set" [.ref l] []) rfl]
  have h1 := PySem.F.called_set.notType
  have h2 := PySem.F.called_set.canCreate
  have hct := PySem.F.typeCall_set_1 (.ref l)
  repeat (any_goals (first | assumption | wp_step))
  refine codeAny_mono (code_set_new_1 (.ref l) (E := E) (Q₁ := fun obj s₁ => ∃ led : Bool, obj = .ref s.heap.objs.size ∧ s₁ = { s with heap := s.heap.push { cls := .type "set", dict := none, data := .set #[] 0 (.fresh 0 0 led) } }) fun led => ⟨led, rfl, rfl⟩) fun r s₁ hr => ?_
  cases r with
  | error e => exact hr
  | ok fl =>
    cases fl with
    | ret obj =>
      obtain ⟨led, rfl, rfl⟩ := hr
      have hS : (s.heap.push { cls := .type "set", dict := none, data := .set #[] 0 (.fresh 0 0 led) }).get? s.heap.objs.size = some { cls := .type "set", dict := none, data := .set #[] 0 (.fresh 0 0 led) } := Heap.get?_push_size _ rfl
      have hT : Shared.TypeIs { s with heap := s.heap.push { cls := .type "set", dict := none, data := .set #[] 0 (.fresh 0 0 led) } } (.ref s.heap.objs.size) "set" := ⟨_, hS, rfl⟩
      have hli := PySem.F.called_set.init.lookup
      have hbi := PySem.F.called_set.init.bind (.ref s.heap.objs.size)
      repeat (any_goals (first | assumption | wp_step))
      refine codeAny_mono (codeAny_call_builtin (R := wants (fun r s₂ => r = .none ∧ ∃ h' tk, s₂ = { s with heap := h', toks := tk } ∧
          h'.SetOf (intKind prog w) s.heap.objs.size (fun k' => (firstMet (fun i => ns.getD i 0) items.size).any (· == k')) (firstMet (fun i => ns.getD i 0) items.size).length ∧
          (∀ b o, s.heap.get? b = some o → h'.get? b = some o)) E) PySem.F.called_set.init.plain PySem.F.entry_set_init (check_set_init_1 hT ?_)) fun r₂ s₂ hr₂ => ?_
      · have hol' : (s.heap.push { cls := .type "set", dict := none, data := .set #[] 0 (.fresh 0 0 led) }).get? l = some (tupObj items nl) := Heap.get?_push_of_some _ hol
        have hsls := VQ
        have hslf := Qp
        have hne : (Value.type "tuple" == Value.type "dict") = false := by decide
        have hl1 : (s.heap.push { cls := .type "set", dict := none, data := .set #[] 0 (.fresh 0 0 led) }).IsTuple l items := ⟨_, hol', rfl, nl, rfl⟩
        unfold Builtin.«set.__init__» noKeywords Builtin.Frozenset.updateFrom
        generalize hPI : pyIter = PI
        wp_walk
        subst hPI
        refine wpAny_pyIter_tuple hl1 ?_
        refine wpAny_bind (wpAny_runValue ?_)
        have hlS : l < s.heap.objs.size := Heap.lt_size hol
        have hh3 : A.in1.in1.in1.handled = none := by simp [hh]
        have hneI : l ≠ (s.heap.push { cls := .type "set", dict := none, data := .set #[] 0 (.fresh 0 0 led) }).objs.size := by
          rw [Heap.size_push]; exact Nat.ne_of_lt (Nat.lt_succ_of_lt hlS)
        have hSf : s.heap.objs.size ∉ [(s.heap.push { cls := .type "set", dict := none, data := .set #[] 0 (.fresh 0 0 led) }).objs.size, l] := by
          rw [Heap.size_push]; simp only [List.mem_cons, List.not_mem_nil, or_false, not_or]
          exact ⟨Nat.ne_of_lt (Nat.lt_succ_self _), Nat.ne_of_gt hlS⟩
        have hval : ∀ (i : Nat) (v : Value), items[i]? = some v → ∃ t, v = .int ((fun i => ns.getD i 0) i) t := fun i v hv => IntsAre.int_at hi i v (by rw [Array.getElem?_toList]; exact hv)
        refine codeAny_set_update_loopS ((Walks.tuple hh3 _ l hneI items).toS) s.heap.objs.size hSf (fun i => ns.getD i 0) hval hb (items.size - 0) 0 _ (by lia) (Nat.zero_le _) ⟨?hI0, hl1.push _⟩ ?hS0 ?hR
        case hI0 => exact ⟨_, Heap.get?_push_size _ rfl, rfl, rfl⟩
        case hS0 => exact SetOf_congr ((setObjOf_fresh (knd := intKind prog w) led).setOf (Heap.get?_push_of_some _ hS) (by unfold scanBound; lia)) (fun _ => rfl) rfl
        case hR =>
          intro s' hm hS'
          obtain ⟨h', g', d', tk', os'⟩ := s'
          have eg : g' = s.gens := hm.gens
          have ed : d' = s.drawn := hm.drawn
          have eo : os' = s.os := hm.os
          subst eg; subst ed; subst eo
          show wpAny _ _ _ _ _ _
          refine wpAny_pure ?_
          show wpAny _ _ (ret Value.none) _ _ _
          refine wpAny_pure ⟨rfl, h', tk', rfl, hS', fun b o e => ?_⟩
          have lb := Heap.lt_size e
          refine hm.heap b o ?_ (Heap.get?_push_of_some _ (Heap.get?_push_of_some _ e))
          rw [Heap.size_push]
          simp only [List.mem_cons, List.not_mem_nil, or_false, not_or]
          exact ⟨Nat.ne_of_lt lb, Nat.ne_of_lt (Nat.lt_succ_of_lt lb)⟩
      · cases r₂ with
        | error e => exact hr₂
        | ok fl₂ =>
          cases fl₂ with
          | ret r =>
            obtain ⟨rfl, h', tk, rfl, hS', hk'⟩ := hr₂
            repeat (any_goals (first | assumption | wp_step))
            exact h _ _ hS' hk'
          | _ => exact hr₂.elim
    | _ => exact hr.elim
theorem Qr (is : List Int) : firstMet (fun i => is.getD i 0) is.length = is.foldl step_dedup [] := by
  unfold firstMet
  have e : (List.range is.length).map (fun i => is.getD i 0) = is := List.ext_getElem (by rw [List.length_map, List.length_range]) fun i h1 h2 => by
    rw [List.getElem_map, List.getElem_range, List.getD_eq_getElem?_getD, List.getElem?_eq_getElem h2]; rfl
  rw [e]
theorem ZFv {a : Addr} {S : Int → Bool} {n : Nat} {Q : Value → Shared → Prop} (hS : s.heap.SetOf (intKind prog w) a S n) (hn : n < 100) (h : ∀ t tk, Q (.int n t) { s with toks := tk }) : wpAny (model prog w) A (call (.builtin "len") [.ref a]) Q E s := by
  obtain ⟨o, es, ep, t, ho, rest⟩ := hS
  obtain ⟨hex, hd, _, _, _, hf, rfl⟩ := rest
  exact call_len_set ho hex hd hf (by lia) (h _ _)
end
end TC

namespace TC
open PySem PySem.W PyProof.Rows
section
set_option maxRecDepth 100000
noncomputable abbrev rvT : String := "list_reverseiterator"
theorem Xg : Slot rvT "__next__" "list_reverseiterator.__next__" := .of (owner := rvT) (n := "__next__") (by rw [typeLookup_type, builtinLookup_eq_fast]; kernel_rfl) (by decide +kernel) (by decide +kernel) (by decide +kernel) (.inl (by decide +kernel)) (by rw [isSubtype_type]; kernel_rfl)
theorem Ho : Slot rvT "__iter__" "list_reverseiterator.__iter__" := .of (owner := rvT) (n := "__iter__") (by rw [typeLookup_type, builtinLookup_eq_fast]; kernel_rfl) (by decide +kernel) (by decide +kernel) (by decide +kernel) (.inl (by decide +kernel)) (by rw [isSubtype_type]; kernel_rfl)
theorem XM (a : Value) : argsOk "list_reverseiterator.__next__" ⟨[a], []⟩ := by unfold argsOk; kernel_rfl
theorem Vx (a : Value) : argsOk "list_reverseiterator.__iter__" ⟨[a], []⟩ := by unfold argsOk; kernel_rfl
theorem ZDf : typeLookup (.type rvT) "__len__" = pure none := by rw [typeLookup_type, builtinLookup_eq_fast]; kernel_rfl
theorem ZGu : typeLookup (.type rvT) "__length_hint__" = pure (some (.builtin "list_reverseiterator.__length_hint__")) := by rw [typeLookup_type, builtinLookup_eq_fast]; kernel_rfl
theorem ZEt : mroOf (.type "reversed") = pure [.type "reversed", .type "object"] := by rw [mroOf_type]; kernel_rfl
theorem ZGw : Bind.madeBy (.type "reversed") = pure (some "reversed.__new__") := madeBy_type ZEt (by rw [typeLookup_type, builtinLookup_eq_fast]; kernel_rfl) (by decide +kernel)
theorem ZDe : entryFor table "reversed.__new__" = some Builtin.«reversed.__new__» := entryFor_of_tree (by kernel_rfl)
theorem XA : entryFor table "list_reverseiterator.__next__" = some Builtin.«list_reverseiterator.__next__» := entryFor_of_tree (by kernel_rfl)
theorem VO : entryFor table "list_reverseiterator.__iter__" = some Builtin.«dict_keyiterator.__iter__» :=
  entryFor_alias (id' := "dict_keyiterator.__iter__") (by kernel_rfl) (by first | rfl | decide +kernel | (unfold String.splitOn; simp +decide [String.splitOnAux])) (by decide +kernel) (by kernel_rfl)
theorem WS : plainId "reversed.__new__" = true := by decide +kernel
theorem GI (a : Value) : checkBuiltinCall "reversed.__new__" ⟨[.type "reversed", a], []⟩ = pure () := by kernel_rfl
theorem Ub (a : Value) : checkTypeCall "reversed" ⟨[a], []⟩ = pure () := by kernel_rfl
theorem ZGx : isSubtype (.type "reversed") (.type "reversed") = pure true := by rw [isSubtype_type]; kernel_rfl
theorem ZDg : isSubtype (.type rvT) (.type "reversed") = pure false := by rw [isSubtype_type]; kernel_rfl
theorem Hn : ((Manifest.find? "reversed").bind (·.mro.findSome? fun t => (Manifest.find? t).bind fun b => if b.noNew then some true else if b.attrs.any (·.1 == "__new__") then some false else none)).getD false = false := by decide +kernel
theorem ZDd (a : Value) : Builtin.SmallTypes.newClass "reversed" ⟨[.type "reversed", a], []⟩ = pure (.type "reversed", [a]) := by
  unfold Builtin.SmallTypes.newClass
  simp only [isType, ZGx, pure_bind, Bool.not_true, Bool.false_eq_true, if_false]
noncomputable abbrev rvO (l : Addr) (k : Nat) : Obj := { cls := .type rvT, data := .fields #[.ref l, rawInt ((k : Int) - 1)] }
noncomputable def Rv (h : Heap) (I l : Addr) (k : Nat) : Prop := ∃ o, h.get? I = some o ∧ o.cls = .type rvT ∧ o.data = .fields #[.ref l, rawInt ((k : Int) - 1)]
variable {prog : Program} {w : World} {A : Around} {E : Value → Shared → Prop} {s : Shared}
theorem Rv.ty {I l : Addr} {k : Nat} (x : Rv s.heap I l k) : s.TypeIs (.ref I) rvT := let ⟨o, h1, h2, _⟩ := x; ⟨o, h1, h2⟩
theorem Ua {l : Addr} {items : Array Value} {Q : Value → Shared → Prop} (hl : s.heap.IsList l items) (h : Q (.ref s.heap.objs.size) { s with heap := s.heap.push (rvO l items.size) }) :
    codeAny (model prog w) A (.call (.builtin "reversed.__new__") ⟨[.type "reversed", .ref l], []⟩) (wants Q E) s := by
  obtain ⟨o, ho, hc, n, hd⟩ := id hl
  refine codeAny_of_tree ?_
  show wpAny _ A.in1 (do checkBuiltinCall "reversed.__new__" ⟨[.type "reversed", .ref l], []⟩; again (.builtin "reversed.__new__" ⟨[.type "reversed", .ref l], []⟩)) _ _ s
  refine wpAny_bind (wpAny_of_eq (GI _) (wpAny_pure ⟨plainId_quiet WS _, codeAny_builtin ZDe ?_⟩))
  rw [Around.under_plainId WS _]
  unfold Builtin.«reversed.__new__»
  refine wpAny_bind (wpAny_of_eq (ZDd _) ?_)
  refine wpAny_bind (wpAny_of_eq (a := ()) (by kernel_rfl) (wpAny_bind (wpAny_of_eq (a := ()) (by kernel_rfl) ?_)))
  refine wpAny_bind (wpAny_specialOf hl.typeIs PySem.F.slot_list_reversed.lookup (wpAny_bind (wpAny_of_eq (PySem.F.slot_list_reversed.bind _) ?_)))
  show wpAny _ _ (if (Value.builtin "list.__reversed__" == Value.none) = true then _ else _) _ _ _
  rw [if_neg (show ¬ ((Value.builtin "list.__reversed__" == Value.none) = true) from Bool.false_ne_true)]
  refine wpAny_bind (wpAny_rule (wpAny_bind ?_))
  show wpAny _ _ (call (.builtin "list.__reversed__") [.ref l]) _ _ _
  refine wpAny_call_entry PySem.F.slot_list_reversed hl.typeIs PySem.F.entry_list_reversed ?_ (PySem.F.args_list_reversed_1 _)
  unfold Builtin.«list.__reversed__»
  refine wpAny_bind (wpAny_of_eq (a := Value.ref l) rfl (wpAny_bind (wpAny_listItems ho hd (wpAny_bind (wpAny_newObj_type (wpAny_pure ⟨_, rfl, ?_⟩))))))
  exact wpAny_pure h
theorem ZGt {l : Addr} {items : Array Value} {Q : Value → Shared → Prop} (hl : s.heap.IsList l items) (h : Q (.ref s.heap.objs.size) { s with heap := s.heap.push (rvO l items.size) }) : wpAny (model prog w) A (call (.type "reversed") [.ref l]) Q E s := by
  have h1 : (Value.type "reversed" == Value.type "type") = false := by decide +kernel
  have h2 := Hn
  have hmro := ZEt
  have hmade := ZGw
  have hsub := ZDg
  have hct := Ub (.ref l)
  refine wpAny_call (codeAny_of_tree ?_)
  show wpAny _ _ (callAny (.type "reversed") _) _ _ _
  refine wpAny_pure ⟨Code.quiet_builtin _ (by decide +kernel), codeAny_builtin PySem.F.entry_type_call ?_⟩
  rw [Around.under_plain (weight_type_call_type "reversed" [.ref l] []) rfl]
  repeat (any_goals (first | assumption | wp_step))
  refine codeAny_mono (Ua (E := E) (Q := fun obj s₁ => obj = .ref s.heap.objs.size ∧ s₁ = { s with heap := s.heap.push (rvO l items.size) }) hl ⟨rfl, rfl⟩) fun r s₁ hr => ?_
  cases r with
  | error e => exact hr
  | ok fl => cases fl with
    | ret obj =>
      obtain ⟨rfl, rfl⟩ := hr
      have hT : Shared.TypeIs { s with heap := s.heap.push (rvO l items.size) } (.ref s.heap.objs.size) rvT := ⟨_, Heap.get?_push_size _ rfl, rfl⟩
      repeat (any_goals (first | assumption | wp_step))
    | _ => exact hr.elim
theorem ZGv {I l : Addr} {k : Nat} {items : Array Value} {x : Value} {Q : Option Value → Shared → Prop} (r : Rv s.heap I l (k + 1)) (hl : s.heap.IsList l items) (hx : items[k]? = some x) (h : ∀ h', Rv h' I l k → (∀ b o, b ≠ I → s.heap.get? b = some o → h'.get? b = some o) → Q (some x) { s with heap := h' }) : wpAny (model prog w) A (pyNext (.ref I)) Q E s := by
  obtain ⟨o, ho, hc, hd⟩ := id r
  obtain ⟨ol, hol, _, nl, hdl⟩ := hl
  have ek : ((k + 1 : Nat) : Int) - 1 = (k : Int) := by lia
  rw [ek] at hd
  unfold pyNext
  refine wpAny_bind (wpAny_attempt (wpAny_callSpecial?_slot (name := Str.ofString "__next__") r.ty Xg (wpAny_call_entry Xg r.ty XA ?_ (XM _))))
  unfold Builtin.«list_reverseiterator.__next__»
  refine wpAny_bind (wpAny_of_eq (a := (Value.ref I, [])) rfl (wpAny_bind (wpAny_field ho hd (x := rawInt (k : Int)) rfl ?_)))
  show wpAny _ _ (if (k : Int) < 0 then _ else _) _ _ s
  rw [if_neg (by lia)]
  refine wpAny_bind (wpAny_field ho hd (x := .ref l) rfl (wpAny_bind (wpAny_seqItems hol hdl ?_)))
  simp only [Int.toNat_natCast, hx]
  refine wpAny_bind (wpAny_setField ho hd (by simp) ?_)
  refine wpAny_pure ⟨x, rfl, wpAny_pure (h _ ⟨_, Heap.get?_update_self _ ho (Obj.isFreed_of_fields (Obj.data_mapFields hd _)), (Obj.cls_mapFields ..).trans hc, ?_⟩ fun b o hb e => (Heap.get?_update_other _ _ (Ne.symm hb)).trans e)⟩
  rw [Obj.data_mapFields hd]; simp
theorem rv_end {I l : Addr} {Q : Option Value → Shared → Prop} (hh : A.handled = none) (r : Rv s.heap I l 0) (h : ∀ h', (∀ b o, s.heap.get? b = some o → h'.get? b = some o) → Q none { s with heap := h' }) : wpAny (model prog w) A (pyNext (.ref I)) Q E s := by
  obtain ⟨o, ho, hc, hd⟩ := id r
  unfold pyNext
  refine wpAny_bind (wpAny_attempt (wpAny_callSpecial?_slot (name := Str.ofString "__next__") r.ty Xg (wpAny_call_entry Xg r.ty XA ?_ (XM _))))
  unfold Builtin.«list_reverseiterator.__next__»
  refine wpAny_bind (wpAny_of_eq (a := (Value.ref I, [])) rfl (wpAny_bind (wpAny_field ho hd (x := rawInt (-1)) rfl ?_)))
  show wpAny _ _ (if (-1 : Int) < 0 then _ else _) _ _ s
  rw [if_pos (by decide)]
  refine wpAny_bind (wpAny_rule (wpAny_bind ?_))
  show wpAny _ _ (newExc (.type "StopIteration") [] >>= _) _ _ _
  refine wpAny_bind ?_
  simp only [newExc, newTuple]
  refine wpAny_bind (wpAny_newObj_type ?_ (by size_fits))
  refine wpAny_bind (m := firstArgMember _ _) (wpAny_of_eq (a := Value.none) (by first | rfl | (simp only [firstArgMember]; rfl)) (wpAny_newObj_type ?_ (by size_fits)))
  simp only [raiseNew]
  refine wpAny_bind (wpAny_handled ?_)
  rw [show A.in1.handled = none from hh]
  refine wpAny_bind (wpAny_pure (wpAny_throw ?_))
  refine wpAny_bind (wpAny_isInstance (T := "StopIteration") (b := true) ⟨_, Heap.get?_push_size _ rfl, rfl⟩ isSubtype_stop ?_)
  exact wpAny_pure (h _ fun b o e => Heap.get?_push_of_some _ (Heap.get?_push_of_some _ e))
theorem rv_it {I l : Addr} {k : Nat} {Q : Value → Shared → Prop} (r : Rv s.heap I l k) (h : Q (.ref I) s) : wpAny (model prog w) A (pyIter (.ref I)) Q E s := by
  refine wpAny_pyIter_slot r.ty Ho (wpAny_call_entry Ho r.ty VO ?_ (Vx _))
  show wpAny _ _ (ret (.ref I)) _ _ s
  exact wpAny_pure ⟨_, rfl, rvT, _, r.ty, Xg.lookup, h⟩
theorem ZGy (hh : A.handled = none) (I l : Addr) (ne : l ≠ I) (items : Array Value) : Walks prog w A I [I, l] [I] items.size (fun i v => items[items.size - 1 - i]? = some v) (fun i h => ∃ k, i + k = items.size ∧ Rv h I l k ∧ h.IsList l items) where
  sub := fun b hb => by rw [List.mem_singleton.mp hb]; exact .head _
  frame := fun i h h' st k => by
    obtain ⟨j, e, ⟨o, h1, h2, h3⟩, ⟨o', h4, h5⟩⟩ := st
    exact ⟨j, e, ⟨o, k I (.head _) o h1, h2, h3⟩, ⟨o', k l (.tail _ (.head _)) o' h4, h5⟩⟩
  item := fun i s Q E lt st h => by
    obtain ⟨j, e, r, hl⟩ := st
    cases j with
    | zero => lia
    | succ j =>
      have hx : items[items.size - 1 - i]? = some (items[items.size - 1 - i]'(by lia)) := Array.getElem?_eq_getElem (by lia)
      have ej : items.size - 1 - i = j := by lia
      refine ZGv r hl (ej ▸ hx) fun h' r' k => h _ h' s.toks hx ⟨j, by lia, r', ?_⟩ fun b o nb e => k b o (fun q => nb (List.mem_singleton.mpr q)) e
      obtain ⟨o', h4, h5⟩ := hl
      exact ⟨o', k l o' ne h4, h5⟩
  done := fun s Q E st h => by
    obtain ⟨j, e, r, hl⟩ := st
    obtain rfl : j = 0 := by lia
    exact rv_end hh r fun h' k => h h' s.toks fun b o _ e => k b o e
  self := fun i s Q E st h => by
    obtain ⟨j, e, r, hl⟩ := st
    exact rv_it r h
theorem GH {I l : Addr} {k : Nat} {Q : Bool → Shared → Prop} (r : Rv s.heap I l k) (h : Q false s) : wpAny (model prog w) A (Builtin.List.listLengthHint (.ref I)) Q E s := by
  unfold Builtin.List.listLengthHint
  refine wpAny_bind (wpAny_specialOf r.ty ZDf ?_)
  show wpAny _ A (specialOf (Value.ref I) (Str.ofString "__length_hint__") >>= _) _ _ _
  refine wpAny_bind (wpAny_specialOf r.ty ZGu ?_)
  generalize hid : ("list_reverseiterator.__length_hint__" : String) = id0
  wp_delta
  rw [show splitId id0 = some (rvT, "__length_hint__") from by subst hid; decide +kernel]
  subst hid
  refine wpAny_bind (wpAny_isInstance (b := true) r.ty (by rw [isSubtype_type]; kernel_rfl) ?_)
  exact wpAny_pure h
theorem ZCl {I l : Addr} {items : Array Value} {Q : Value → Shared → Prop} (hh : A.handled = none) (ne : l ≠ I) (r : Rv s.heap I l items.size) (hl : s.heap.IsList l items) (hn : items.size ≤ sizeLine)
    (hQ : ∀ h' tk acc' c', (∀ b o, b ≠ I → s.heap.get? b = some o → h'.get? b = some o) → h'.get? s.heap.objs.size = some { cls := .type "list", dict := none, data := .seq acc' c', slots := #[] } → ItemsOf (fun i v => items[items.size - 1 - i]? = some v) acc' items.size → Q (.ref s.heap.objs.size) { s with heap := h', toks := tk }) :
    wpAny (model prog w) A (call (.type "list") [.ref I]) Q E s := by
  refine callType_codes (Q₁ := fun obj s₁ => obj = .ref s.heap.objs.size ∧ s₁ = { s with heap := s.heap.push { cls := .type "list", data := .seq #[] } }) PySem.F.called_list (PySem.F.typeCall_list_1 _) PySem.F.entry_list_init (code_list_new _ ⟨rfl, rfl⟩) fun obj s₁ h₁ => ?_
  obtain ⟨rfl, rfl⟩ := h₁
  have hS : (s.heap.push { cls := .type "list", data := .seq #[] }).get? s.heap.objs.size = some { cls := .type "list", data := .seq #[] } := Heap.get?_push_size _ rfl
  refine ⟨⟨_, hS, rfl⟩, PySem.F.args_list_init_2 _ _, ?_⟩
  show wpAny _ _ (do let old ← Builtin.List.listItems (.ref s.heap.objs.size); Builtin.List.listUpdate (.ref s.heap.objs.size) (fun _ => #[]); letGo old.toList.reverse; Builtin.List.listExtendWith (.ref s.heap.objs.size) (.ref I) .none) _ _ _
  refine wpAny_bind ?_
  unfold Builtin.List.listItems
  refine wpAny_bind (wpAny_seqItems hS rfl (wpAny_pure ?_))
  show wpAny _ _ (updateSeq s.heap.objs.size (fun _ => #[]) >>= fun _ => letGo (#[] : Array Value).toList.reverse >>= fun _ => Builtin.List.listExtendWith (.ref s.heap.objs.size) (.ref I) .none) _ _ _
  refine wpAny_bind (wpAny_updateSeq hS rfl ?_)
  have hS₂ := Heap.get?_update_self (Obj.mapSeq (fun _ => (#[] : Array Value))) hS rfl
  have oth : ∀ b o, s.heap.get? b = some o → ((s.heap.push { cls := .type "list", data := .seq #[] }).update s.heap.objs.size (Obj.mapSeq (fun _ => (#[] : Array Value)))).get? b = some o :=
    fun b o e => (Heap.get?_update_other _ _ (Nat.ne_of_gt (Heap.lt_size e))).trans (Heap.get?_push_of_some _ e)
  have lI : I < s.heap.objs.size := let ⟨o, e, _⟩ := r; Heap.lt_size e
  have ll : l < s.heap.objs.size := let ⟨o, e, _⟩ := hl; Heap.lt_size e
  generalize hg : (s.heap.push { cls := .type "list", data := .seq #[] }).update s.heap.objs.size (Obj.mapSeq (fun _ => (#[] : Array Value))) = g at hS₂ oth ⊢
  refine wpAny_bind (wpAny_letGo ?_)
  have r' : Rv g I l items.size := let ⟨o, e, q⟩ := r; ⟨o, oth I o e, q⟩
  have hl' : g.IsList l items := let ⟨o, e, q⟩ := hl; ⟨o, oth l o e, q⟩
  unfold Builtin.List.listExtendWith
  refine wpAny_bind (wpAny_typeOf (Rv.ty (s := { s with heap := g }) r') ?_)
  rw [show Builtin.List.listSameRef (.ref s.heap.objs.size) (.ref I) = false from by simp [Builtin.List.listSameRef, Nat.ne_of_gt lI]]
  refine wpAny_ite_split (fun q => absurd q (by decide)) fun _ => ?_
  refine wpAny_bind (rv_it (s := { s with heap := g }) r' (wpAny_bind (wpAny_holding (GH (s := { s with heap := g }) r' ?_))))
  refine wpAny_ite_split (fun q => absurd q (by decide)) fun _ => ?_
  have hSf : s.heap.objs.size ∉ [I, l] := fun q => by
    rcases List.mem_cons.mp q with q | q
    · exact Nat.ne_of_gt lI q
    · exact Nat.ne_of_gt ll (List.mem_singleton.mp q)
  refine wpAny_pure ⟨plainId_quiet PySem.F.plain_extend_loop _, codeAny_extend_loopS (ZGy (prog := prog) (w := w) (A := A.in1.in1) hh I l ne items).toS hn s.heap.objs.size hSf .none items.size 0 _ #[] _ rfl (Nat.zero_le _) ⟨items.size, Nat.zero_add _, r', hl'⟩ hS₂ (ItemsOf.nil _) fun s' acc' c' hm hS' hacc => ?_⟩
  rw [Moved.eq_with hm]
  refine ⟨rfl, hQ s'.heap s'.toks acc' c' (fun b o nb e => hm.heap b o (fun q => ?_) (oth b o e)) hS' hacc⟩
  rcases List.mem_cons.mp q with q | q
  · exact absurd (Heap.lt_size e) (by rw [q]; exact Nat.lt_irrefl _)
  · exact nb (List.mem_singleton.mp q)
end
end TC

namespace TC
open PySem PySem.W PyProof.Rows

theorem Gb (x : PyData) : All (boolOf x) fun i => x = .bool i := by
  cases x with
  | bool ys => exact .so rfl
  | _ => exact .no
theorem XE {α : Type} {f : PyData → Option α} {x : PyData} {xs : List PyData} {as : List α} (e : allOf f (x :: xs) = some as) : ∃ a r, as = a :: r ∧ f x = some a ∧ allOf f xs = some r := by
  obtain ⟨a, h1, h2⟩ := Option.bind_eq_some_iff.mp e
  obtain ⟨r, h3, h4⟩ := Option.map_eq_some_iff.mp h2
  exact ⟨a, r, h4.symm, h1, h3⟩
theorem Jw {α : Type} {f : PyData → Option α} : ∀ {xs : List PyData} {as : List α}, allOf f xs = some as → as.length = xs.length := fun {xs} => by
  induction xs with
  | nil => intro as e; cases e; rfl
  | cons x xs ih => intro as e; obtain ⟨a, r, rfl, _, h⟩ := XE e; exact congrArg Nat.succ (ih h)
theorem VY {α : Type} {f : PyData → Option α} : ∀ {xs : List PyData} {as : List α}, allOf f xs = some as → ∀ {k : Nat} {x : PyData}, xs[k]? = some x → ∃ a, as[k]? = some a ∧ f x = some a := fun {xs} => by
  induction xs with
  | nil => intro as _ k x q; cases q
  | cons x xs ih =>
    intro as e k y q
    obtain ⟨a, r, rfl, h1, h2⟩ := XE e
    cases k with
    | zero => cases q; exact ⟨a, rfl, h1⟩
    | succ k => exact ih h2 q
theorem PRs.intsAre {P : AP} {h : Heap} : ∀ {xs : List PyData} {vs : List Value} {is : List Int}, PRs P h vs xs → allOf intOf xs = some is → IntsAre vs is := fun {xs} => by
  induction xs with
  | nil => intro vs is r e; cases e; obtain rfl := r.inv; exact .nil
  | cons x xs ih =>
    intro vs is r e
    obtain ⟨i, js, rfl, h1, h2⟩ := XE e
    obtain ⟨v, ws, rfl, a, b⟩ := r.inv
    rw [VF x i h1] at a
    obtain ⟨t, rfl⟩ := a.inv
    exact .cons _ t (ih b h2)
theorem Xa {P : AP} {h : Heap} {vs : List Value} {is : List Int} (r : IntsAre vs is) : PRs P h vs (ofInts is) := by
  induction r with
  | nil => exact .nil
  | cons n t _ ih => exact .cons (.int n t) ih
theorem int_at {P : AP} {h : Heap} {vs : Array Value} {xs : List PyData} {is : List Int} (r : PRs P h vs.toList xs) (e : allOf intOf xs = some is) (i : Nat) (v : Value) (q : vs[i]? = some v) : ∃ t, v = .int (is.getD i 0) t := by
  rw [← Array.getElem?_toList] at q
  obtain ⟨x, h1, h2⟩ := r.get' q
  obtain ⟨a, h3, h4⟩ := VY e h1
  rw [VF x a h4] at h2
  rw [List.getD_eq_getElem?_getD, h3]
  exact h2.inv
theorem ZFa {P : AP} {h : Heap} {vs : Array Value} {xs : List PyData} {is : List Bool} (r : PRs P h vs.toList xs) (e : allOf boolOf xs = some is) (i : Nat) (v : Value) (q : vs[i]? = some v) : v = .bool (is.getD i true) := by
  rw [← Array.getElem?_toList] at q
  obtain ⟨x, h1, h2⟩ := r.get' q
  obtain ⟨a, h3, h4⟩ := VY e h1
  rw [Gb x a h4] at h2
  rw [List.getD_eq_getElem?_getD, h3]
  exact h2.inv

theorem Xv (is : List Int) : ∀ k, k ≤ is.length → preSum (fun i => is.getD i 0) k = (is.take k).sum
  | 0, _ => rfl
  | k + 1, h => by
    have hk : k < is.length := h
    have e : (is.take (k + 1)).sum = (is.take k).sum + is[k] := by rw [List.take_add_one, List.getElem?_eq_getElem hk, List.sum_append]; simp
    rw [preSum, Xv is k (Nat.le_of_lt hk), e]
    simp [hk]
theorem Vm : ∀ (r : List Int) (a : Int), (r.foldl max a ∈ a :: r) ∧ ∀ x ∈ a :: r, x ≤ r.foldl max a
  | [], a => by simp
  | b :: r, a => by
    obtain ⟨h1, h2⟩ := Vm r (max a b)
    simp only [List.foldl_cons]
    refine ⟨?_, fun x hx => ?_⟩
    · rcases List.mem_cons.mp h1 with e | e
      · rw [e]; rcases Int.le_total a b with q | q
        · rw [Int.max_eq_right q]; simp
        · rw [Int.max_eq_left q]; simp
      · simp [e]
    · have h3 := h2 (max a b) (by simp)
      simp only [List.mem_cons] at hx
      rcases hx with rfl | rfl | hx
      · exact Int.le_trans (Int.le_max_left _ _) h3
      · exact Int.le_trans (Int.le_max_right _ _) h3
      · exact h2 x (by simp [hx])
theorem Vn : ∀ (r : List Int) (a : Int), (r.foldl min a ∈ a :: r) ∧ ∀ x ∈ a :: r, r.foldl min a ≤ x
  | [], a => by simp
  | b :: r, a => by
    obtain ⟨h1, h2⟩ := Vn r (min a b)
    simp only [List.foldl_cons]
    refine ⟨?_, fun x hx => ?_⟩
    · rcases List.mem_cons.mp h1 with e | e
      · rw [e]; rcases Int.le_total a b with q | q
        · rw [Int.min_eq_left q]; simp
        · rw [Int.min_eq_right q]; simp
      · simp [e]
    · have h3 := h2 (min a b) (by simp)
      simp only [List.mem_cons] at hx
      rcases hx with rfl | rfl | hx
      · exact Int.le_trans h3 (Int.min_le_left _ _)
      · exact Int.le_trans h3 (Int.min_le_right _ _)
      · exact h2 x (by simp [hx])
theorem HS {is : List Int} {m : Int} (h : maxL is = some m) : m ∈ is ∧ ∀ x ∈ is, x ≤ m := by
  cases is with
  | nil => cases h
  | cons a r => cases h; exact Vm r a
theorem HU {is : List Int} {m : Int} (h : minL is = some m) : m ∈ is ∧ ∀ x ∈ is, m ≤ x := by
  cases is with
  | nil => cases h
  | cons a r => cases h; exact Vn r a
theorem ZFx {is : List Int} {m : Int} (h1 : m ∈ is) (h2 : ∀ x ∈ is, x ≤ m) : maxL is = some m := by
  cases e : maxL is with
  | none => cases is with | nil => cases h1 | cons => cases e
  | some m' => obtain ⟨a, b⟩ := HS e; exact congrArg some (Int.le_antisymm (h2 m' a) (b m h1))
theorem ZFz {is : List Int} {m : Int} (h1 : m ∈ is) (h2 : ∀ x ∈ is, m ≤ x) : minL is = some m := by
  cases e : minL is with
  | none => cases is with | nil => cases h1 | cons => cases e
  | some m' => obtain ⟨a, b⟩ := HU e; exact congrArg some (Int.le_antisymm (b m h1) (h2 m' a))
theorem Ql : ∀ {a b : List Int}, a.Perm b → a.Pairwise (· ≤ ·) → b.Pairwise (· ≤ ·) → a = b
  | [], b, p, _, _ => by rw [List.nil_perm] at p; exact p.symm
  | x :: a, [], p, _, _ => by rw [List.perm_nil] at p; cases p
  | x :: a, y :: b, p, h1, h2 => by
    obtain ⟨h1a, h1b⟩ := List.pairwise_cons.mp h1
    obtain ⟨h2a, h2b⟩ := List.pairwise_cons.mp h2
    have hxy : x = y := by
      have mx : x ∈ y :: b := p.mem_iff.mp (by simp)
      have my : y ∈ x :: a := p.mem_iff.mpr (by simp)
      rcases List.mem_cons.mp mx with e | e
      · exact e
      · rcases List.mem_cons.mp my with e' | e'
        · exact e'.symm
        · exact Int.le_antisymm (h1a y e') (h2a x e)
    subst hxy
    rw [Ql (List.Perm.cons_inv p) h1b h2b]
theorem UA (is : List Int) : (sortI is).Pairwise (· ≤ ·) := by
  have := List.pairwise_mergeSort (le := fun a b : Int => decide (a ≤ b)) (by intro a b c h1 h2; simp at *; lia) (by intro a b; simp; lia) is
  exact this.imp (by intro a b h; simpa using h)
theorem GK (is : List Int) : (sortI is).Perm is := List.mergeSort_perm ..
theorem WW {a is : List Int} (p : a.Perm is) (h : a.Pairwise (· ≤ ·)) : a = sortI is := Ql (p.trans (GK is).symm) h (UA is)
theorem Vz {a is : List Int} (p : a.Perm is) (h : a.Pairwise (· ≥ ·)) : a = (sortI is).reverse := by
  have := WW (a := a.reverse) (is := is) ((List.reverse_perm a).trans p) (List.pairwise_reverse.mpr (h.imp fun q => q))
  rw [← this, List.reverse_reverse]

section
variable {c : Cf} {s : Shared} {v v2 : Value} {u u2 : V} {x : PyData} {xs : List PyData} {K : V → Prop} {Q : Value → Shared → Prop}
theorem XT {h h' h'' : Heap} (k : Keep h h') (q : ∀ b o, b ∉ [h.objs.size] → h'.get? b = some o → h''.get? b = some o) : Keep h h'' := fun b o e =>
  q b o (fun z => JE (List.mem_singleton.mp z ▸ e) (JW h)) (k b o e)
theorem ZCg (r : PR c.fr s.heap v x) (e : seqOf x = some xs) (hz : xs.length < lim) (k : Ret c s (.d (.int xs.length)) Q) : c.wp (call (.builtin "len") [v]) Q s := by
  have hz := Jt hz (Nat.le_refl _)
  cases x with
  | list ys =>
    cases e
    obtain ⟨a, vs, n, rfl, _, ho, q⟩ := r.inv
    exact Calls.call_len_list ⟨_, ho, rfl, n, rfl⟩ (by rw [q.size]; lia) (by rw [q.size]; exact k.int _ _)
  | tuple ys =>
    cases e
    obtain ⟨a, vs, n, rfl, _, ho, q⟩ := r.inv
    exact len_tuple ⟨_, ho, rfl, n, rfl⟩ (by rw [q.size]; lia) (by rw [q.size]; exact k.int _ _)
  | _ => cases e
theorem ZDo {is : List Int} (hk : HOk c.hm c.A s.heap) (r : PR c.fr s.heap v x) (e : seqOf x = some xs) (ei : allOf intOf xs = some is) (k : Ret c s (.d (.int is.sum)) Q) : c.wp (call (.builtin "sum") [v]) Q s := by
  refine call_sum_walkG (Qv (A := c.A.in1) (hm := c.hm) hk r e fun h' vs q kh it => ?_)
  obtain ⟨fp, St, W, st, lt, _⟩ := it
  refine ⟨_, fp, _, _, _, St, fun i => is.getD i 0, rfl, W, st, fun b hb => (lt b hb).1, int_at q ei, fun h'' tk t' kk => ?_⟩
  rw [← Jw ei, Xv is _ (Nat.le_refl _), List.take_length]
  exact k.kint t' (XT kh kk) tk
theorem GZ {is : List Int} {j : Nat} (h : j < is.length) : is.getD j 0 ∈ is := by
  rw [List.getD_eq_getElem?_getD, List.getElem?_eq_getElem h]; exact List.getElem_mem h
theorem ZCq {is : List Int} {m : Int} (hk : HOk c.hm c.A s.heap) (r : PR c.fr s.heap v x) (e : seqOf x = some xs) (ei : allOf intOf xs = some is) (em : maxL is = some m) (k : Ret c s (.d (.int m)) Q) : c.wp (call (.builtin "max") [v]) Q s := by
  refine call_max_walk (Qv (A := c.A.in1) (hm := c.hm) hk r e fun h' vs q kh it => ?_)
  obtain ⟨fp, St, W, st, lt, _⟩ := it
  have l := Jw ei
  have hpos : 0 < is.length := by cases is with | nil => cases em | cons => exact Nat.succ_pos _
  refine ⟨_, fp, _, _, _, St, _, rfl, W, st, fun b hb => (lt b hb).1, by rw [← l]; exact hpos, CmpOf.ints_gt (fun i => is.getD i 0) (int_at q ei), fun w h'' tk p kk => ?_⟩
  obtain ⟨t, rfl⟩ := int_at q ei _ w p
  obtain ⟨b1, b2⟩ := argBest_gt (fun i => is.getD i 0) (xs.length - 1)
  rw [← l] at b1 b2 ⊢
  have em' := ZFx (GZ (is := is) (j := argBest (fun i j => decide (is.getD i 0 > is.getD j 0)) (is.length - 1)) (by lia)) (fun y hy => by
      obtain ⟨j, hj, rfl⟩ := List.getElem_of_mem hy
      have := b2 j (by lia)
      rwa [List.getD_eq_getElem?_getD (i := j), List.getElem?_eq_getElem hj] at this)
  rw [em] at em'
  cases em'
  exact k.kint t (XT kh kk) tk
theorem ZCr {is : List Int} {m : Int} (hk : HOk c.hm c.A s.heap) (r : PR c.fr s.heap v x) (e : seqOf x = some xs) (ei : allOf intOf xs = some is) (em : minL is = some m) (k : Ret c s (.d (.int m)) Q) : c.wp (call (.builtin "min") [v]) Q s := by
  refine call_min_walk (Qv (A := c.A.in1) (hm := c.hm) hk r e fun h' vs q kh it => ?_)
  obtain ⟨fp, St, W, st, lt, _⟩ := it
  have l := Jw ei
  have hpos : 0 < is.length := by cases is with | nil => cases em | cons => exact Nat.succ_pos _
  refine ⟨_, fp, _, _, _, St, _, rfl, W, st, fun b hb => (lt b hb).1, by rw [← l]; exact hpos, CmpOf.ints_lt (fun i => is.getD i 0) (int_at q ei), fun w h'' tk p kk => ?_⟩
  obtain ⟨t, rfl⟩ := int_at q ei _ w p
  obtain ⟨b1, b2⟩ := argBest_lt (fun i => is.getD i 0) (xs.length - 1)
  rw [← l] at b1 b2 ⊢
  have em' := ZFz (GZ (is := is) (j := argBest (fun i j => decide (is.getD i 0 < is.getD j 0)) (is.length - 1)) (by lia)) (fun y hy => by
      obtain ⟨j, hj, rfl⟩ := List.getElem_of_mem hy
      have := b2 j (by lia)
      rwa [List.getD_eq_getElem?_getD (i := j), List.getElem?_eq_getElem hj] at this)
  rw [em] at em'
  cases em'
  exact k.kint t (XT kh kk) tk
theorem GU {bs : List Bool} : (List.range bs.length).all (fun i => bs.getD i true) = bs.all id := by
  rw [Bool.eq_iff_iff, List.all_eq_true, List.all_eq_true]
  constructor
  · intro H y hy
    obtain ⟨j, hj, rfl⟩ := List.getElem_of_mem hy
    have := H j (List.mem_range.mpr hj)
    rwa [List.getD_eq_getElem?_getD, List.getElem?_eq_getElem hj] at this
  · intro H j hj
    have hj := List.mem_range.mp hj
    rw [List.getD_eq_getElem?_getD, List.getElem?_eq_getElem hj]
    exact H _ (List.getElem_mem hj)
theorem ZAr {bs : List Bool} (hk : HOk c.hm c.A s.heap) (r : PR c.fr s.heap v x) (e : seqOf x = some xs) (ei : allOf boolOf xs = some bs) (k : Ret c s (.d (.bool (bs.all id))) Q) : c.wp (call (.builtin "all") [v]) Q s := by
  refine call_all_walk (Qv (A := c.A.in1) (hm := c.hm) hk r e fun h' vs q kh it => ?_)
  obtain ⟨fp, St, W, st, lt, _⟩ := it
  refine ⟨_, fp, _, _, _, St, fun i => bs.getD i true, rfl, W, st, fun i v s Q E p hq => ?_, fun h'' tk kk => ?_⟩
  · rw [ZFa q ei i v p]; exact wpAny_truthy_bool hq
  · rw [← Jw ei, GU]
    exact k.kbool (XT kh kk) tk
theorem Vs (a : AtC c s) (h : IsL c.hid s.heap v xs) (hz : xs.length < lim) (k : Ret c s (.own (.list xs)) Q) : c.wp (call (.type "list") [v]) Q s := by
  obtain ⟨l, vs, n, rfl, ho, r⟩ := h
  exact call_list_seq l (.inl rfl) ho rfl rfl (fun h' c' kh e => k.new a kh (JW _) e r _) (by rw [r.size]; exact Jt hz (by rw [sizeLine_eq]; decide))
theorem Vv {ks : List Int} {i : Nat} {y : PyData} (e : (ofInts ks)[i]? = some y) : ∃ k, ks[i]? = some k ∧ y = .int k := by
  unfold ofInts at e
  rw [List.getElem?_map] at e
  obtain ⟨k, h1, h2⟩ := Option.map_eq_some_iff.mp e
  exact ⟨k, h1, h2.symm⟩
theorem HK (W : WfC c) (a : At c s) (hh : c.A.handled = none) (r : c.R s v u) : All (keysV u) fun xs => xs.length < lim → Ret c s (.own (.list xs)) Q → c.wp (call (.type "list") [v]) Q s := by
  cases u with
  | brw x =>
    cases x with
    | dict kvs =>
      refine .map fun ks e hz k => ?_
      obtain ⟨d, es, n, rfl, nP, ho, rk, rv, ok⟩ := PR.inv r
      have hz' : ks.length < lim := by rw [ofInts, List.length_map] at hz; exact hz
      refine ZCm hh ok.off (Hz (prog := c.G.prog) (w := c.G.w) ho rk rv ok e) (by rw [List.length_map]; exact Jt hz' (by rw [sizeLine_eq]; decide)) fun h' tk acc' c' kh e hacc => k.new a.toAtC kh (JW _) e (PRs.of ?_ fun i w y e1 e2 => ?_) tk
      · rw [Array.length_toList, hacc.1, List.length_map, ofInts, List.length_map]
      · obtain ⟨k, h1, rfl⟩ := Vv e2
        rw [Array.getElem?_toList] at e1
        obtain ⟨k', x, h2, h3⟩ := hacc.2 i w e1
        rw [List.getElem?_map, h1] at h2
        cases h2
        obtain ⟨t, rfl⟩ := Value.isInt_shape h3
        exact .int k t
    | _ => exact fun xs e hz k => Vs a.toAtC (W.ls a.toAtC r xs e) hz k
  | rg n =>
    refine .so fun hz k => ?_
    obtain ⟨r, t1, t2, t3, rfl, nr, l, ir⟩ := r
    rw [Qk] at l
    refine call_list_range (n := n.toNat) hh ir (small_one (by lia) (by lia) (by lia) (by lia)) (by rw [rangeSize_one]; split <;> lia) (by lia) fun h' tk acc' c' kh e hacc => k.new a.toAtC kh (JW _) e (PRs.of ?_ fun i w y e1 e2 => ?_) tk
    · rw [Array.length_toList, hacc.1, ofInts, List.length_map, rangeL, List.length_map, List.length_range]
    · obtain ⟨k, h1, rfl⟩ := Vv e2
      rw [Array.getElem?_toList] at e1
      obtain ⟨t, rfl⟩ := hacc.2 i w e1
      rw [rangeL, List.getElem?_map] at h1
      obtain ⟨j, e4, rfl⟩ := Option.map_eq_some_iff.mp h1
      obtain ⟨_, e3⟩ := List.getElem?_eq_some_iff.mp e4
      rw [List.getElem_range] at e3
      subst e3
      rw [Int.zero_add, Int.mul_one]
      exact .int _ t
  | _ => exact fun xs e hz k => Vs a.toAtC (W.ls a.toAtC r xs e) hz k
theorem GP (W : WfC c) (a : AtC c s) (h : IsL c.hid s.heap v xs) (hz : xs.length < lim) (k : Ret c s (.d (.tuple xs)) Q) : c.wp (call (.type "tuple") [v]) Q s := by
  obtain ⟨l, vs, n, rfl, ho, r⟩ := h
  refine call_tuple_list ⟨_, ho, rfl, n, rfl⟩ (fun h' kh => ?_) (by rw [r.size]; exact Jt hz (by rw [sizeLine_eq]; decide))
  exact W.tup (s := { s with heap := h' }) (fun v s' x m => k v s' ((Ext.of kh).trans x) m) (a.go (Ext.of kh) ⟨rfl, rfl⟩) 0 (r.move fun b o hb q => ⟨hb, kh b o q⟩)
theorem Xl (h : Heap) : h.get? (h.objs.size + 1) = none := VJ fun o z => absurd (Heap.lt_size z) (Nat.not_lt.mpr (Nat.le_succ _))
theorem Ue (a : AtC c s) (h : IsL c.fr s.heap v xs) {is : List Int} (ei : allOf intOf xs = some is) (hz : is.length < 64) (k : Ret c s (.own (.list (ofInts (sortI is)))) Q) : c.wp (call (.builtin "sorted") [v]) Q s := by
  obtain ⟨l, vs, n, rfl, ho, r⟩ := h
  have I := r.intsAre ei
  have ln := I.length
  refine sorted_ints (l := l) (vs := vs.toList) ⟨_, ho, rfl, n, rfl⟩ I (by lia) fun out ns' q p o => ?_
  obtain ⟨e, he⟩ := sortedAll_at s.heap vs.toList out
  rw [← WW p o] at k
  exact k.new a (fun _ _ => sortedAll_old) (Xl _) he (Xa q) _
theorem tup_eq' (x : PyData) : All (tupOf x) fun t => ∃ ys, x = .tuple ys ∧ allOf intOf ys = some t := by
  cases x with
  | tuple ys => exact fun t e => ⟨ys, rfl, e⟩
  | _ => exact .no
theorem allOf_cons' {α : Type} {f : PyData → Option α} {x : PyData} {r : List PyData} {ts : List α} (e : allOf f (x :: r) = some ts) : ∃ a as, ts = a :: as ∧ f x = some a ∧ allOf f r = some as := by
  obtain ⟨a, h1, h2⟩ := Option.bind_eq_some_iff.mp e
  obtain ⟨as, h3, h4⟩ := Option.map_eq_some_iff.mp h2
  exact ⟨a, as, h4.symm, h1, h3⟩
theorem PRs.tks {P : AP} {h : Heap} {xs : List PyData} : ∀ {vs : List Value} {ts : List (List Int)}, PRs P h vs xs → allOf tupOf xs = some ts → [] ∉ ts → TKs h vs ts := by
  induction xs with
  | nil => intro vs ts r e ne; cases e; rw [show vs = [] from r.inv]; exact .nil
  | cons x xs ih =>
    intro vs ts r e ne
    obtain ⟨t, us, rfl, h1, h2⟩ := allOf_cons' e
    obtain ⟨v, ws, rfl, a, b⟩ := r.inv
    obtain ⟨ys, rfl, h3⟩ := tup_eq' x t h1
    obtain ⟨z, items, m, rfl, _, ho, q⟩ := a.inv
    exact .cons ⟨z, items, m, rfl, ho, q.intsAre h3⟩ (fun e => ne (e ▸ .head _)) (ih b h2 fun q => ne (.tail _ q))
theorem TKs.prs {P : AP} {h : Heap} (n : ∀ b, P b → Is h b) {vs : List Value} {ts : List (List Int)} (r : TKs h vs ts) : PRs P h vs (ofTups ts) := by
  induction r with
  | nil => exact .nil
  | cons a _ _ ih =>
    obtain ⟨z, items, m, rfl, ho, I⟩ := a
    exact .cons (.tuple (fun q => UV (n z q) ho) ho (Xa I)) ih
theorem ZDj {ts' ts : List (List Int)} (p : ts'.Perm ts) (h : ts'.Pairwise (· < ·)) : ts' = sortT ts := by
  refine List.Perm.eq_of_pairwise (le := fun a b : List Int => a ≤ b) (fun x y _ _ p q => List.le_antisymm p q) (h.imp List.le_of_lt) ?_ (p.trans (List.mergeSort_perm _ _).symm)
  exact (List.pairwise_mergeSort (le := fun a b : List Int => decide (a ≤ b)) (fun a b c h1 h2 => decide_eq_true (List.le_trans (of_decide_eq_true h1) (of_decide_eq_true h2))) (fun a b => by rw [Bool.or_eq_true, decide_eq_true_iff, decide_eq_true_iff]; exact List.le_total a b) ts).imp fun h => of_decide_eq_true h
theorem GL (a : AtC c s) (h : IsL c.fr s.heap v xs) {ts : List (List Int)} (ei : allOf tupOf xs = some ts) (hz : ts.length < 64) (nd : ts.Nodup) (ne : [] ∉ ts) (k : Ret c s (.own (.list (ofTups (sortT ts)))) Q) : c.wp (call (.builtin "sorted") [v]) Q s := by
  obtain ⟨l, vs, n, rfl, ho, r⟩ := h
  have I := r.tks ei ne
  refine Uf (l := l) (vs := vs.toList) ⟨_, ho, rfl, n, rfl⟩ I nd (by rw [I.length]; exact hz) fun out ts' q p o => ?_
  obtain ⟨e, he⟩ := sortedAll_at s.heap vs.toList out
  rw [← ZDj p o] at k
  exact k.new a (fun _ _ => sortedAll_old) (Xl _) he (q.prs a.dom) _
theorem Gi (hh : c.A.handled = none) {is : List Int} {x : PyData} (r : PR c.fr s.heap v x) (e : tupleOf x = some xs) (ei : allOf intOf xs = some is) (hz : is.length < 64) {Q' : Value → Shared → Prop} (q : ∀ d s', Ext c.fr s.heap s'.heap → Same s s' → (∀ Q : Value → Shared → Prop, (∀ t tk, Q (.int (is.foldl step_dedup []).length t) { s' with toks := tk }) → c.wp (call (.builtin "len") [d]) Q s') → Q' d s') : c.wp (call (.type "set") [v]) Q' s := by
  cases x with
  | tuple ys =>
    cases e
    obtain ⟨l, vs, n, rfl, _, ho, r⟩ := r.inv
    have I := r.intsAre ei
    have ln := I.length
    rw [Array.length_toList] at ln
    refine Hq hh ho I (by unfold scanBound; lia) fun h' tk hS kh => ?_
    rw [ln, Qr] at hS
    refine q _ { s with heap := h', toks := tk } (Ext.of kh) ⟨rfl, rfl⟩ fun Q k => ?_
    have le := firstMet_length_le (fun i => is.getD i 0) is.length
    rw [Qr] at le
    exact ZFv (s := { s with heap := h', toks := tk }) hS (by lia) k
  | _ => exact nomatch e
theorem idx_at (k : Int) {vs : List Value} {is : List Int} (I : IntsAre vs is) : k ∈ is → ∃ hj : is.idxOf k < vs.length, isInt k vs[is.idxOf k] = true ∧ ∀ m (hm : m < vs.length), m < is.idxOf k → isInt k vs[m] = false := by
  induction I with
  | nil => exact fun h => nomatch h
  | cons n t r ih =>
    rename_i vs' is'
    intro h
    by_cases c : n = k
    · subst c
      have e : (n :: is').idxOf n = 0 := List.idxOf_cons_self
      simp only [e]
      exact ⟨Nat.succ_pos _, by simp [isInt], fun m _ lt => absurd lt (Nat.not_lt_zero _)⟩
    · obtain ⟨hj, h1, h2⟩ := ih ((List.mem_cons.mp h).resolve_left fun e => c e.symm)
      have e : (n :: is').idxOf k = is'.idxOf k + 1 := by rw [List.idxOf_cons, beq_eq_false_iff_ne.mpr c]; rfl
      simp only [e]
      refine ⟨Nat.succ_lt_succ hj, h1, fun m hm lt => ?_⟩
      cases m with
      | zero => simp [isInt, c]
      | succ m => exact h2 m (Nat.lt_of_succ_lt_succ hm) (Nat.lt_of_succ_lt_succ lt)
theorem Wq {k : Int} {t : Tok} {is : List Int} (h : IsL c.fr s.heap v xs) (ei : allOf intOf xs = some is) (hk : k ∈ is) (hz : is.length < lim) (kk : Ret c s (.d (.int (is.idxOf k))) Q) : c.wp (call (.builtin "list.index") [v, .int k t]) Q s := by
  obtain ⟨l, vs, n, rfl, ho, r⟩ := h
  have I := r.intsAre ei
  obtain ⟨hj, h1, h2⟩ := idx_at k I hk
  have hj' : is.idxOf k < vs.size := by simpa using hj
  have ln := I.length
  rw [Array.length_toList] at ln
  rw [Qk] at hz
  exact call_meets PySem.F.slot_list_index ⟨_, ho, rfl⟩ PySem.F.entry_list_index (PySem.F.args_list_index_2 _ _) (MeetsSeq.list_index l vs n (.int k t) (isInt k) (fun y hy => eq_isInt k t I y (by simpa using hy)) (is.idxOf k) hj' (by lia) (by simpa using h1) fun m hm lt => by have q := h2 m (by simpa using hm) lt; rwa [Array.getElem_toList] at q) ⟨ho, kk.int _ _⟩
theorem UB (a : AtC c s) (h : IsL c.fr s.heap v xs) {is : List Int} (ei : allOf intOf xs = some is) (hz : is.length < 64) (k : Ret c s (.own (.list (ofInts (sortI is).reverse))) Q) : c.wp (call (.builtin "sorted") [v] [(Str.ofString "reverse", .bool true)]) Q s := by
  obtain ⟨l, vs, n, rfl, ho, r⟩ := h
  have I := r.intsAre ei
  have ln := I.length
  refine sorted_ints_rev (l := l) (vs := vs.toList) ⟨_, ho, rfl, n, rfl⟩ I (by lia) fun out ns' q p o => ?_
  obtain ⟨e, he⟩ := sortedAll_at s.heap vs.toList out
  rw [← Vz p o] at k
  exact k.new a (fun _ _ => sortedAll_old) (Xl _) he (Xa q) _
theorem GF {i : Int} {t : Tok} (W : WfC c) (a : AtC c s) (l : -(lim : Int) < i ∧ i < lim) (k : Ret c s (.rg i) Q) : c.wp (call (.type "range") [.int i t]) Q s :=
  call_range_1 (k _ { s with heap := _, toks := _ } (Ext.of (JQ _ _)) ⟨rfl, rfl⟩ ⟨_, _, _, _, rfl, W.new_fr (a.ext.gone (JW _)), l, IsRange.new _ _ _ _ _ _ _⟩)
theorem HQ {a b : Int} {t t' : Tok} (hh : c.A.handled = none) (k : Ret c s (.d (.int (max a b))) Q) : c.wp (call (.builtin "max") [.int a t, .int b t']) Q s :=
  max_two_ints hh fun h' tk kh => by
    by_cases q : b > a
    · rw [if_pos q]; rw [Int.max_eq_right (Int.le_of_lt q)] at k; exact k.kint _ kh tk
    · rw [if_neg q]; rw [Int.max_eq_left (Int.not_lt.mp q)] at k; exact k.kint _ kh tk
theorem HT {a b : Int} {t t' : Tok} (hh : c.A.handled = none) (k : Ret c s (.d (.int (min a b))) Q) : c.wp (call (.builtin "min") [.int a t, .int b t']) Q s :=
  min_two_ints hh fun h' tk kh => by
    by_cases q : b < a
    · rw [if_pos q]; rw [Int.min_eq_right (Int.le_of_lt q)] at k; exact k.kint _ kh tk
    · rw [if_neg q]; rw [Int.min_eq_left (Int.not_lt.mp q)] at k; exact k.kint _ kh tk

noncomputable def F1.callee : F1 → Value
  | .len => .builtin "len"
  | .sum => .builtin "sum"
  | .max => .builtin "max"
  | .min => .builtin "min"
  | .list => .type "list"
  | .tuple => .type "tuple"
  | .sorted => .builtin "sorted"
  | .int => .type "int"
  | .all => .builtin "all"
  | .range => .type "range"
  | _ => .none
noncomputable def F2.callee : F2 → Value
  | .max => .builtin "max"
  | .min => .builtin "min"
  | .index => .none
noncomputable def isBT : Value → Bool
  | .builtin _ => true
  | .type _ => true
  | _ => false
theorem VD : ∀ p ∈ f1Names, bootBuiltins p.1 = some p.2.callee ∧ p.1 ∈ usedNames ∧ isBT p.2.callee = true := by decide +kernel
theorem ZFj : ∀ p ∈ f2Names, bootBuiltins p.1 = some p.2.callee ∧ p.1 ∈ usedNames ∧ isBT p.2.callee = true := by decide +kernel
theorem ZFh (W : WfC c) (a : At c s) (r : c.R s v u) (k : Fin c s K Q) {f : F1} (hf : isBT f.callee = true) (hq : f.quiet = false → c.hm = false) (w : f.W u K) : c.wp (call f.callee [v]) Q s := by
  cases f with
  | len => exact Zx w fun x e1 w => Zx w fun xs e2 w => ZCg (W.rdf r x e1) e2 w.1 (W.ret a k w.2)
  | sum => exact Zx w fun x e1 w => Zx w fun xs e2 w => Zx w fun is e3 w => ZDo a.hok (W.rdf r x e1) e2 e3 (W.ret a k w)
  | max => exact Zx w fun x e1 w => Zx w fun xs e2 w => Zx w fun is e3 w => Zx w fun m e4 w => ZCq a.hok (W.rdf r x e1) e2 e3 e4 (W.ret a k w)
  | min => exact Zx w fun x e1 w => Zx w fun xs e2 w => Zx w fun is e3 w => Zx w fun m e4 w => ZCr a.hok (W.rdf r x e1) e2 e3 e4 (W.ret a k w)
  | list => exact Zx w fun xs e1 w => HK W a (HOk.none (hq rfl ▸ a.hok)) r xs e1 w.1 (W.ret a k w.2)
  | tuple => exact Zx w fun xs e1 w => GP W a.toAtC (W.ls a.toAtC r xs e1) w.1 (W.ret a k w.2)
  | sorted =>
    refine Zx w fun x e1 w => Zx w fun xs e2 w => ?_
    revert w
    cases e3 : allOf intOf xs with
    | some is => exact fun w => Ue a.toAtC ((W.rdf r x e1).isL e2) e3 w.1 (W.ret a k w.2)
    | none => exact fun w => Zx w fun ts e4 w => GL a.toAtC ((W.rdf r x e1).isL e2) e4 w.1.1 w.1.2.1 w.1.2.2 (W.ret a k w.2)
  | int =>
    refine Zx w fun b e1 w => ?_
    obtain rfl := r.bool e1
    have := (W.ret a k w).int
    exact call_int_bool (by cases b <;> exact this _ _)
  | all => exact Zx w fun x e1 w => Zx w fun xs e2 w => Zx w fun is e3 w => ZAr a.hok (W.rdf r x e1) (QR x xs e2 ▸ rfl) e3 (W.ret a k w)
  | range =>
    refine Zx w fun i e1 w => ?_
    obtain ⟨t, rfl⟩ := r.int e1
    exact GF W a.toAtC w.1 (W.ret a k w.2)
  | _ => exact nomatch hf
theorem ZFk (W : WfC c) (a : At c s) (r : c.R s v u) (r2 : c.R s v2 u2) (hh : c.hm = false) (k : Fin c s K Q) {f : F2} (hf : isBT f.callee = true) (w : f.W u u2 K) : c.wp (call f.callee [v, v2]) Q s := by
  have hn : c.A.handled = none := HOk.none (hh ▸ a.hok)
  cases f with
  | max =>
    refine Zx w fun i e1 w => Zx w fun j e2 w => ?_
    obtain ⟨t1, rfl⟩ := r.int e1
    obtain ⟨t2, rfl⟩ := r2.int e2
    exact HQ hn (W.ret a k w)
  | min =>
    refine Zx w fun i e1 w => Zx w fun j e2 w => ?_
    obtain ⟨t1, rfl⟩ := r.int e1
    obtain ⟨t2, rfl⟩ := r2.int e2
    exact HT hn (W.ret a k w)
  | index => exact nomatch hf
end
end TC

namespace TC
open PySem PySem.W PyProof.Rows

section
variable {c : Cf} {s : Shared} {v v2 : Value} {u u2 : V} {x y : PyData} {xs ys : List PyData} {K : V → Prop} {Q : Value → Shared → Prop}
theorem Uc {k : Int} (ei : idxD xs k = some y) : ∃ j, seqIndex? k xs.length = some j ∧ xs[j]? = some y ∧ (-(2 ^ 63) ≤ k ∧ k < 2 ^ 63) ∧ (0 ≤ k → j = k.toNat) ∧ (k < 0 → j = (k + xs.length).toNat ∧ -(xs.length : Int) ≤ k) := by
  unfold idxD at ei
  simp only [Qk] at ei
  split at ei
  · rename_i q
    have := (List.getElem?_eq_some_iff.mp ei).1
    exact ⟨k.toNat, by simp [seqIndex?, show ¬ k < 0 by lia, q.1, show k < xs.length by lia], ei, by lia, fun _ => rfl, fun q => by lia⟩
  · split at ei
    · rename_i q
      exact ⟨(k + xs.length).toNat, by simp [seqIndex?, q.1, show 0 ≤ k + xs.length by lia, show k + (xs.length : Int) < xs.length by lia], by rw [Int.add_comm]; exact ei, by lia, fun q => by lia, fun q => ⟨rfl, by lia⟩⟩
    · cases ei
theorem WD {P : AP} {k : Int} {t : Tok} {value slice : Expr} (r : PR P s.heap v x) (e : seqOf x = some xs) (ei : idxD xs k = some y) (h : ∀ w, PR P s.heap w y → Q w s) (hs : subscripted slice false v (.int k t) = operate [v, .int k t] (getItem v (.int k t))) : c.wp (subscriptTail value slice v (.int k t)) Q s := by
  obtain ⟨j, hj, hy, ⟨lo, hi⟩, n1, n2⟩ := Uc ei
  cases x with
  | list ys =>
    cases e
    obtain ⟨a, vs, n, rfl, _, ho, q⟩ := r.inv
    obtain ⟨v, hv, rv⟩ := q.get hy
    have hl : s.heap.IsList a vs := ⟨_, ho, rfl, n, rfl⟩
    rw [Array.getElem?_toList] at hv
    refine tail_any hl.typeIs slot_list_getitem.lookup ?_ hs
    by_cases z : 0 ≤ k
    · exact wpAny_getItem_list hl z hi (n1 z ▸ hv) (h v rv)
    · have z := Int.not_le.mp z
      exact wpAny_getItem_list_neg hl z (by rw [q.size]; exact (n2 z).2) lo (by rw [q.size, ← (n2 z).1]; exact hv) (h v rv)
  | tuple ys =>
    cases e
    obtain ⟨a, vs, n, rfl, _, ho, q⟩ := r.inv
    obtain ⟨v, hv, rv⟩ := q.get hy
    have hl : IsTup s.heap a vs := ⟨_, ho, rfl, n, rfl⟩
    rw [Array.getElem?_toList] at hv
    exact tail_any hl.typeIs slot_tuple_getitem.lookup (PyProof.Rows.getItem_tuple hl lo hi (by rw [q.size]; exact hj) hv (h v rv)) hs
  | _ => cases e
theorem Wu (a : AtC c s) (r : PR c.fr s.heap v y) : c.R s v (low y) := by
  unfold low
  cases f : flat y with
  | false => exact r
  | true => exact XX a.dom r f
theorem idx_ok (W : WfC c) (a : At c s) (r : c.R s v u) {k : Int} {t : Tok} {value slice : Expr} (kk : Fin c s K Q) (w : got (idxV u k) K) (hs : subscripted slice false v (.int k t) = operate [v, .int k t] (getItem v (.int k t))) : c.wp (subscriptTail value slice v (.int k t)) Q s := by
  refine Zx w fun u' e w => ?_
  have kk : ∀ w', c.R s w' u' → Q w' s := fun w' r' => kk w' s u' a (Ext.refl _ _) r' w
  have plain : ∀ {y}, PR c.hid s.heap v y → ((seqOf y).bind (idxD · k)).map V.d = some u' → c.wp (subscriptTail value slice v (.int k t)) Q s := fun {y} r e => by
    obtain ⟨z, e', rfl⟩ := Option.map_eq_some_iff.mp e
    obtain ⟨zs, e1, e2⟩ := Option.bind_eq_some_iff.mp e'
    exact WD r e1 e2 kk hs
  cases u with
  | d y => exact plain r e
  | own y => exact plain (W.keep a.toAtC r y rfl) e
  | brw y =>
    obtain ⟨z, e', rfl⟩ := Option.map_eq_some_iff.mp e
    obtain ⟨zs, e1, e2⟩ := Option.bind_eq_some_iff.mp e'
    exact WD r e1 e2 (fun w' r' => kk w' (Wu a.toAtC r')) hs
  | exc k => exact nomatch e
  | rg n => exact nomatch e
theorem ZEl (a : AtC c s) (h : IsL c.hid s.heap v xs) (hz : xs.length < lim) {vl vu : Value} {lo hi : Option Int} {value slice : Expr} (pl : IsPart vl lo) (pu : IsPart vu hi) (hp : ∀ vs : Array Value, PRs c.hid s.heap vs.toList xs → PRs c.hid s.heap (slicePick vs lo hi none).toList ys) (k : Ret c s (.own (.list ys)) Q)
    (hs : subscripted slice false v (.ref s.heap.objs.size) = operate [.ref s.heap.objs.size, v] (getItem v (.ref s.heap.objs.size))) :
    c.wp (subscriptTail value slice v (.ref s.heap.objs.size)) Q { s with heap := s.heap.push { cls := .type "slice", data := .fields #[vl, vu, .none] } } := by
  obtain ⟨l, vs, n, rfl, ho, r⟩ := h
  have hl : s.heap.IsList l vs := ⟨_, ho, rfl, n, rfl⟩
  refine tail_any (Heap.IsList.typeIs (s := { s with heap := s.heap.push { cls := .type "slice", data := .fields #[vl, vu, .none] } }) (hl.push _)) list_getitem_lookup
    (wpAny_getItem_list_slice (hl.push _) (Heap.IsSliceOf.new ..) pl pu .none (by simp) ?_ (by rw [r.size]; exact Jt hz (by rw [sizeLine_eq]; decide))) hs
  exact Ret.push (s := { s with heap := s.heap.push { cls := .type "slice", data := .fields #[vl, vu, .none] } }) (fun v s' x m => k v s' ((Ext.of (JQ _ _)).trans x) m) (a.go (Ext.of (JQ _ _)) ⟨rfl, rfl⟩) 0 ((hp vs r).move fun b o hb e => ⟨hb, JQ _ _ b o e⟩)
theorem Hj {P : AP} {h : Heap} {k : Int} (hk : 0 ≤ k) (vs : Array Value) (r : PRs P h vs.toList xs) : PRs P h (slicePick vs (some k) none none).toList (xs.drop k.toNat) := by
  obtain ⟨j, rfl⟩ := Int.eq_ofNat_of_zero_le hk
  show PRs P h (slicePick vs (some (j : Int)) none none).toList _
  rw [slicePick_from']
  simpa using r.drop j
theorem Hk {P : AP} {h : Heap} {k : Int} (hk : 0 ≤ k) (vs : Array Value) (r : PRs P h vs.toList xs) : PRs P h (slicePick vs none (some k) none).toList (xs.take k.toNat) := by
  obtain ⟨j, rfl⟩ := Int.eq_ofNat_of_zero_le hk
  show PRs P h (slicePick vs none (some (j : Int)) none).toList _
  rw [slicePick_upto']
  simpa using r.take j
theorem fits (vs : List Value) (h : vs.length < 1000) : vs.toArray.size ≤ sizeLine := by rw [List.size_toArray, sizeLine_eq]; lia
theorem Wz (a : AtC c s) {vs : List Value} (r : PRs c.hid s.heap vs xs) (hz : vs.length < 1000) (k : Ret c s (.own (.list xs)) Q) : c.wp (newList vs) Q s := wpAny_newObj_type (k.push a 0 r) (fits vs hz)
theorem UU (W : WfC c) (a : AtC c s) {vs : List Value} (r : PRs c.hid s.heap vs xs) (hz : vs.length < 1000) (k : Ret c s (.d (.tuple xs)) Q) : c.wp (newTuple vs) Q s := wpAny_newObj_type (W.tup k a 0 r) (fits vs hz)

noncomputable def tyStr : Ty → String
  | .int => "int"
  | .bool => "bool"
  | .list => "list"
  | .tuple => "tuple"
  | _ => "ValueError"
theorem ZCb (r : PR c.fr s.heap v x) (ty : Ty) (k : Ret c s (.d (.bool (ty.has x))) Q) : ty ≠ .valueError → (∀ j, ty ≠ .exc j) → c.wp (call (.builtin "isinstance") [v, .type (tyStr ty)]) Q s := fun n1 n2 => by
  cases x with
  | none => obtain rfl := r.inv; cases ty with
    | int => exact PySem.IsiPair.NoneType_int (k.bool _)
    | bool => exact PySem.IsiPair.NoneType_bool (k.bool _)
    | list => exact PySem.IsiPair.NoneType_list (k.bool _)
    | tuple => exact PySem.IsiPair.NoneType_tuple (k.bool _)
    | exc j => exact absurd rfl (n2 j)
    | valueError => exact absurd rfl n1
  | bool b => obtain rfl := r.inv; cases ty with
    | int => exact PySem.IsiPair.bool_int k.bool'
    | bool => exact PySem.IsiPair.bool_bool k.bool'
    | list => exact PySem.IsiPair.bool_list (k.bool _)
    | tuple => exact PySem.IsiPair.bool_tuple (k.bool _)
    | exc j => exact absurd rfl (n2 j)
    | valueError => exact absurd rfl n1
  | int b => obtain ⟨t, rfl⟩ := r.inv; cases ty with
    | int => exact PySem.IsiPair.int_int k.bool'
    | bool => exact PySem.IsiPair.int_bool (k.bool _)
    | list => exact PySem.IsiPair.int_list (k.bool _)
    | tuple => exact PySem.IsiPair.int_tuple (k.bool _)
    | exc j => exact absurd rfl (n2 j)
    | valueError => exact absurd rfl n1
  | str b => obtain ⟨t, rfl⟩ := r.inv; cases ty with
    | int => exact PySem.IsiPair.str_int (k.bool _)
    | bool => exact PySem.IsiPair.str_bool (k.bool _)
    | list => exact PySem.IsiPair.str_list (k.bool _)
    | tuple => exact PySem.IsiPair.str_tuple (k.bool _)
    | exc j => exact absurd rfl (n2 j)
    | valueError => exact absurd rfl n1
  | list b =>
    obtain ⟨a, vs, n, rfl, _, ho, _⟩ := r.inv
    have hl : s.heap.IsList a vs := ⟨_, ho, rfl, n, rfl⟩
    cases ty with
    | int => exact PySem.IsiPair.isList_int hl (fun _ _ e => e) (k.bool _)
    | bool => exact PySem.IsiPair.isList_bool hl (fun _ _ e => e) (k.bool _)
    | list => exact PySem.IsiPair.isList_list hl (fun _ _ e => e) k.bool'
    | tuple => exact PySem.IsiPair.isList_tuple hl (fun _ _ e => e) (k.bool _)
    | exc j => exact absurd rfl (n2 j)
    | valueError => exact absurd rfl n1
  | tuple b =>
    obtain ⟨a, vs, n, rfl, _, ho, _⟩ := r.inv
    have hl : s.heap.IsTuple a vs := ⟨_, ho, rfl, n, rfl⟩
    cases ty with
    | int => exact PySem.IsiPair.isTuple_int hl (fun _ _ e => e) (k.bool _)
    | bool => exact PySem.IsiPair.isTuple_bool hl (fun _ _ e => e) (k.bool _)
    | list => exact PySem.IsiPair.isTuple_list hl (fun _ _ e => e) (k.bool _)
    | tuple => exact PySem.IsiPair.isTuple_tuple hl (fun _ _ e => e) k.bool'
    | exc j => exact absurd rfl (n2 j)
    | valueError => exact absurd rfl n1
  | dict b =>
    obtain ⟨a, vs, n, rfl, _, ho, _⟩ := r.inv
    cases ty with
    | int => exact PySem.IsiPair.dict_int ho rfl (k.bool _)
    | bool => exact PySem.IsiPair.dict_bool ho rfl (k.bool _)
    | list => exact PySem.IsiPair.dict_list ho rfl (k.bool _)
    | tuple => exact PySem.IsiPair.dict_tuple ho rfl (k.bool _)
    | exc j => exact absurd rfl (n2 j)
    | valueError => exact absurd rfl n1
theorem Hc {P : AP} {h : Heap} (r : PR P h v x) : (v == .none) = isNon x := by
  have := r.inv
  cases x with
  | none => rw [show v = .none from this]; rfl
  | bool b => rw [show v = .bool b from this]; rfl
  | int b => obtain ⟨_, rfl⟩ := this; rfl
  | str b => obtain ⟨_, rfl⟩ := this; rfl
  | list b => obtain ⟨_, _, _, rfl, _⟩ := this; rfl
  | tuple b => obtain ⟨_, _, _, rfl, _⟩ := this; rfl
  | dict b => obtain ⟨_, _, _, rfl, _⟩ := this; rfl
end
end TC

namespace TC
open PySem PySem.W PyProof.Rows

section
variable {G : Gl} {A : Around} {E : Value → Shared → Prop} {s : Shared} {C : Addr} {M : Model}
set_option maxRecDepth 100000 in
theorem Go {prog : Program} {w : World} {K : Frag} {x : Addr} {ox : Obj} {Q : Option Value → Shared → Prop} (X : K.In s.heap) (I : InstAt s.heap x ox C none) (hga : findIn K (.ref C) "__getattribute__" = some (some (.builtin "BaseException.__getattribute__"))) (hgt : findIn K (.ref C) "__getattr__" = some none)
    (hf : findObj K C none "__class__" = some (.bind (.builtin "getset_descriptor.__get__") (.builtin "object.__class__"))) (hmB : mroIn K C (.type "BaseException") = some true) (hm : mroIn K C (.type "object") = some true)
    (h : Q (some (.ref C)) { s with toks := s.toks + 1 }) : wpAny (model prog w) A (getAttr? (.ref x) "__class__") Q E s := by
  obtain ⟨hh, g, d, t, os⟩ := s
  have L0 := I.type (M := model prog w)
  have L1 := looks_findIn (M := model prog w) X hga
  have L2 := looks_findIn (M := model prog w) X hgt
  have L3 := looks_find (M := model prog w) X I hf
  have L4 := looks_mroIn (M := model prog w) X hmB
  unfold getAttr? getAttrBy? getAttrBy
  refine wpAny_bind (wpAny_mkText (wpAny_bind (wpAny_attempt (wpAny_holding (wpAny_bind (L0.at (wpAny_bind (L1.at ?_))))))))
  have hx2 : (Value.builtin "BaseException.__getattribute__" == Value.builtin "object.__getattribute__") = false := by decide +kernel
  have hx1 : (onTheHeap (Value.ref C) && Value.builtin "BaseException.__getattribute__" == Value.builtin "object.__getattribute__") = false := by rw [hx2]; rfl
  dsimp only
  rw [if_neg (by rw [hx1]; decide)]
  unfold getAttrByItsOwn hookBefore
  rw [if_pos (show onTheHeap (Value.ref C) = true from rfl)]
  refine wpAny_bind (L2.at (wpAny_bind (wpAny_attempt (wpAny_holding ?_))))
  unfold callGetattribute
  rw [if_neg (by decide)]
  unfold boundAndCalled
  rw [PySem.F.attr_ValueError.ga.bind (.ref x)]
  refine wpAny_bind (wpAny_pure (wpAny_call ?_))
  refine codeAny_call_builtin PySem.F.attr_ValueError.ga.plain PySem.F.entry_bexc_ga ?_
  have hk : builtinKind "BaseException.__getattribute__" = some .slot := by decide +kernel
  have hsplit : splitId "BaseException.__getattribute__" = some ("BaseException", "__getattribute__") := by decide +kernel
  have ha := PySem.F.args_bexc_ga (.ref x) (Value.str (Str.ofString "__class__") t)
  show wpAny _ _ (checkBuiltinCall _ ⟨[.ref x, Value.str (Str.ofString "__class__") t], []⟩) _ _ _
  simp only [checkBuiltinCall, hk, hsplit]
  unfold isInstance
  refine wpAny_bind (wpAny_bind (L0.at (L4.at ?_)))
  repeat (first | assumption | wp_step)
  refine wpAny_loadPart_at I.at_ ?_
  rw [I.cls]
  refine wpAny_pure (wpAny_bind (L3.at ?_))
  dsimp only
  repeat (first | assumption | wp_step)
  exact class_get (ox := ox) (od := none) X I hm (wpAny_pure (handed_on rfl (wpAny_pure h)))

theorem Qy (O : G.Ok) {c : Nat} (hc : G.ca[c]? = some C) : (findIn G.K (.ref C) "__getattribute__" = some (some (.builtin "BaseException.__getattribute__")) ∧ findIn G.K (.ref C) "__getattr__" = some none ∧ mroIn G.K C (.type "BaseException") = some true) ∧ (clsIn G.K C).isSome = true ∧ findIn G.K (.ref C) "__class__" = some (some (.builtin "object.__class__")) ∧ specialIn G.K (.builtin "object.__class__") "__get__" = some (some (.builtin "getset_descriptor.__get__"))
    ∧ takesIn G.K (.builtin "object.__class__") = some true ∧ mroIn G.K C (.type "object") = some true ∧ mroIn G.K C (.type "ValueError") = some true ∧ typeIn G.K (.ref C) = some (.type "type") := by
  have q := O.cok c C hc
  unfold ownOk1 at q
  simp only [Bool.and_eq_true, beq_iff_eq] at q
  obtain ⟨⟨⟨⟨⟨⟨⟨⟨⟨q1, q1'⟩, q1''⟩, q2⟩, q3⟩, q4⟩, q5⟩, q6⟩, q7⟩, q8⟩ := q
  exact ⟨⟨q1, q1', q1''⟩, q2, q3, q4, q5, q6, q7, q8⟩
theorem Xo (O : G.Ok) {c : Nat} {h : Heap} (hc : G.ca[c]? = some C) (X : G.K.In h) : Looks M h (isType (.ref C)) true := by
  obtain ⟨cd, e⟩ := Option.isSome_iff_exists.mp (Qy O hc).2.1
  unfold clsIn at e
  split at e
  · rename_i ho
    exact fun A' Q' E' s' k q => wpAny_bind (wpAny_loadPart (k _ _ (X _ _ ho)) (wpAny_pure q))
  · cases e
theorem HE (O : G.Ok) {c : Nat} {x : Addr} {o : Obj} {v : Value} {b : Bool} (hc : G.ca[c]? = some C) (X : G.K.In s.heap) (I : InstAt s.heap x o C none) (hb : (Value.ref C == v) = true → b = true) (hty : Looks (model G.prog G.w) s.heap (typeOf v) (.type "type")) (his : Looks (model G.prog G.w) s.heap (isType v) true)
    (hsub : Looks (model G.prog G.w) s.heap (isSubtype (.ref C) v) b) {Q : Value → Shared → Prop} (h : ∀ tk, Q (.bool b) { s with toks := tk }) : wpAny (model G.prog G.w) A (call (.builtin "isinstance") [.ref x, v]) Q E s := by
  obtain ⟨hg, hcl, ha, hn, htk, hm, _, _⟩ := Qy O hc
  obtain ⟨cdD, hcD⟩ := Option.isSome_iff_exists.mp hcl
  have hf : findObj G.K C none "__class__" = some (.bind (.builtin "getset_descriptor.__get__") (.builtin "object.__class__")) := by
    unfold findObj; rw [hcD, ha]; simp only [Option.bind_some, hn, htk]
  have hit := Xo (M := model G.prog G.w) O hc X
  refine call_isinstance_of ?_ (by intro q; cases q)
  have LT := I.type (M := model G.prog G.w)
  have LI : Looks (model G.prog G.w) s.heap (isInstance (.ref x) v) b := LT.andThen hsub
  unfold Builtin.«isinstance.nested»
  refine wpAny_bind (LT.at ?_)
  by_cases q : (Value.ref C == v) = true
  · rw [if_pos q]
    have e := hb q
    subst e
    exact wpAny_bind (wpAny_rule (wpAny_pure (h s.toks)))
  · rw [if_neg q]
    refine wpAny_bind (hty.at ?_)
    rw [if_pos (by decide)]
    k_delta "plainIsInstance"
    refine wpAny_bind (wpAny_bind (his.at ?_))
    rw [if_neg (by decide)]
    refine wpAny_bind (LI.at ?_)
    cases b with
    | true => exact wpAny_pure (wpAny_pure (h s.toks))
    | false =>
      rw [if_neg (by decide)]
      refine wpAny_bind (Go X I hg.1 hg.2.1 hf hg.2.2 hm ?_)
      refine wpAny_bind (hit.at ?_)
      rw [if_neg (by decide)]
      exact wpAny_bind (wpAny_rule (hsub.at (wpAny_pure (h _))))
theorem Xm : typeOf (.type "ValueError") = pure (.type "type") := by
  show (pure (Value.type ((Manifest.find? "ValueError").elim "type" fun x => x.metatype)) : Sem Value) = _
  rw [show ((Manifest.find? "ValueError").elim "type" fun x => x.metatype) = "type" from by kernel_rfl]
theorem Ux {ca : List Addr} {c : Nat} {h : Heap} {v : Value} (x : ExcAt ca c h v) : ∃ e C, v = .ref e ∧ ca[c]? = some C ∧ ∃ o, InstAt h e o C none := by
  obtain ⟨e, o, vs, C, rfl, h1, h2, h3, h4, h5⟩ := x
  exact ⟨e, C, rfl, h1, o, h2, h3, by unfold notCls; rw [h5], by rw [h4]; trivial⟩
end
section
variable {c : Cf} {s : Shared} {v : Value} {u : V} {K : V → Prop} {Q : Value → Shared → Prop}
theorem WfC.inK (W : WfC c) (a : AtC c s) : c.G.K.In s.heap := W.ok.inK.keeps a.stk.base
theorem UN (W : WfC c) (a : AtC c s) {k k' : Nat} {C' : Addr} (x : ExcAt c.G.ca k s.heap v) (hc' : c.G.ca[k']? = some C') (h : Ret c s (.d (.bool (k' == 0 || k == k'))) Q) : c.wp (call (.builtin "isinstance") [v, .ref C']) Q s := by
  obtain ⟨e, C, rfl, hc, o, i⟩ := Ux x
  have hs := W.ok.csub _ _ _ _ hc hc'
  have X := W.inK a
  refine HE W.ok hc X i (fun q => ?_) (looks_typeIn X (Qy W.ok hc').2.2.2.2.2.2.2) (Xo W.ok hc' X) (looks_mroIn X hs) fun tk => h.bool tk
  have e1 : C = C' := Value.ref.inj (beq_iff_eq.mp q)
  subst e1
  have h1 := W.ok.csub _ _ _ _ hc hc
  rw [hs] at h1
  simpa using h1
theorem VG (W : WfC c) (a : AtC c s) {k : Nat} (x : ExcAt c.G.ca k s.heap v) (h : Ret c s (.d (.bool true)) Q) : c.wp (call (.builtin "isinstance") [v, .type "ValueError"]) Q s := by
  obtain ⟨e, C, rfl, hc, o, i⟩ := Ux x
  have X := W.inK a
  exact HE W.ok hc X i (fun _ => rfl) (Looks.of_pure Xm) (Looks.of_pure rfl) (looks_mroIn X (Qy W.ok hc).2.2.2.2.2.2.1) fun tk => h.bool tk

theorem Jl {cx : Cx} {x : Str} {i : Nat} (h : cx.var x = some i) : (x == ("__debug__" : Str)) = false ∧ cx.tb.lookup x = some i ∧ isVar (cx.kd.lookup x) = true := by
  unfold Cx.var at h
  cases e : (x != "__debug__" && isVar (cx.kd.lookup x)) with
  | false => rw [e] at h; cases h
  | true =>
    rw [e] at h
    have q := Bool.and_eq_true_iff.mp e
    exact ⟨Bool.eq_false_iff.mpr fun z => bne_iff_ne.mp q.1 (beq_iff_eq.mp z), h, q.2⟩
theorem QL {x : Str} {pos : Pos} (O : EnvOk c.G c.cx c.env) (hd : (x == ("__debug__" : Str)) = false) (a : varAt c.env s.heap x v) (h : Q v s) : c.wp (eval (.Name x pos) c.env) Q s := by
  refine wpAny_Name ?_ hd
  rcases a with ⟨k, m, hn, hv⟩ | ⟨k | k, z, hc, hv⟩
  · exact wpAny_loadName_local O.kind k hn hv h
  · exact wpAny_loadName_cell O.kind k hc hv h
  · exact wpAny_loadName_free O.kind k hc hv h (O.nocd x (by rw [← O.names]; exact k))
theorem nm_ok (W : Wf c) {x : Str} {pos : Pos} : All (c.cx.var x) fun i => OkE c (.Name x pos) (.nm i) := fun i hv s K Q a w k => by
  obtain ⟨h1, h2, _⟩ := Jl hv
  refine Zx w fun o e1 w => Zx w fun u e2 w => ?_
  obtain ⟨v, va, r⟩ := a.envr x i h2 u (e2 ▸ e1)
  exact QL W.envok h1 va (k v s _ a (Ext.refl _ _) r w)
theorem WA {cx : Cx} {x : Str} (h : cx.glob x = true) : cx.kd.lookup x = some .globalImplicit ∧ (x == ("__debug__" : Str)) = false ∧ x ≠ "__name__" := by
  unfold Cx.glob at h
  simp only [Bool.and_eq_true, beq_iff_eq, bne_iff_ne, ne_eq] at h
  exact ⟨h.1.1, Bool.eq_false_iff.mpr fun q => h.1.2 (beq_iff_eq.mp q), h.2⟩
theorem Qw (W : Wf c) (a : AtC c s) {x : Str} {pos : Pos} (hg : c.cx.glob x = true) (e : nsIn c.G.K mainGlobals x = some (some v)) (h : Q v s) : c.wp (eval (.Name x pos) c.env) Q s := by
  obtain ⟨h1, h2, _⟩ := WA hg
  refine Calls.Name_function_global W.envok.kind (by unfold Env.kindOf; rw [W.envok.names]; exact h1) (Calls.loadGlobal_global (mg := c.G.mg) ?_ (mg_of W.ok.inK W.ok.top.g e) h) h2
  rw [W.envok.glob]
  exact W.ok.top.g.keeps a.stk.base
theorem Jc (W : Wf c) (a : AtC c s) {x : Str} {pos : Pos} (hg : c.cx.glob x = true) (m : x ∈ usedNames) (hv : bootBuiltins x = some v) (h : Q v s) : c.wp (eval (.Name x pos) c.env) Q s := by
  obtain ⟨h1, h2, h3⟩ := WA hg
  refine Calls.Name_function_global W.envok.kind (by unfold Env.kindOf; rw [W.envok.names]; exact h1) (Calls.loadGlobal_builtin (mg := c.G.mg) (mb := c.G.mb) ?_ (mg_none_of W.ok.inK W.ok.top.g (W.ok.bnm x m)) ?_ ((W.ok.top.builtins x h3).trans hv) h) h2
  · rw [W.envok.glob]; exact W.ok.top.g.keeps a.stk.base
  · rw [W.envok.bns]; exact W.ok.top.b.keeps a.stk.base

noncomputable abbrev Plain (pe : Expr) : Prop := ∀ env rest, starEach (pe :: rest) env = (false, eval pe env) :: starEach rest env
noncomputable abbrev NoSl (pe : Expr) : Prop := ∀ v w, subscripted pe false v w = operate [v, w] (getItem v w)
structure Ok (c : Cf) (pe : Expr) (e : E) : Prop where
  ev : OkE c pe e
  ts : OkT c pe e
  pl : Plain pe
  ns : NoSl pe
noncomputable def OkL (c : Cf) : List Expr → Es → Prop
  | [], .nil => True
  | p :: ps, .cons e es => Ok c p e ∧ OkL c ps es
  | _, _ => False
theorem QB {f : Expr → Option TC.E} {es : List Expr} (h : ∀ pe, All (f pe) (Ok c pe)) : All (lowL f es) (OkL c es) := by
  induction es with
  | nil => exact .so trivial
  | cons e es ih => exact .bind fun a h1 => .map fun b h2 => ⟨h e a h1, ih b h2⟩
inductive Rs (R : Value → V → Prop) : List Value → List V → Prop
  | nil : Rs R [] []
  | cons {v u vs us} : R v u → Rs R vs us → Rs R (v :: vs) (u :: us)
theorem Rs.imp {R R' : Value → V → Prop} (k : ∀ v u, R v u → R' v u) {vs : List Value} {us : List V} (r : Rs R vs us) : Rs R' vs us :=
  Rs.rec (motive := fun vs us _ => Rs R' vs us) .nil (fun a _ b => .cons (k _ _ a) b) r
theorem Rs.length {R : Value → V → Prop} {vs : List Value} {us : List V} (r : Rs R vs us) : vs.length = us.length :=
  Rs.rec (motive := fun vs us _ => vs.length = us.length) rfl (fun _ _ b => congrArg Nat.succ b) r
theorem Rs.keep {R : Value → V → Prop} {P : AP} {h : Heap} (k : ∀ v u, R v u → All (kp u) (PR P h v)) {vs : List Value} {us : List V} (r : Rs R vs us) : All (keepAll us) (PRs P h vs) :=
  Rs.rec (motive := fun vs us _ => All (keepAll us) (PRs P h vs)) (.so .nil) (fun a _ b => .bind fun x h1 => .map fun xs h2 => .cons (k _ _ a x h1) (b xs h2)) r
noncomputable abbrev Φ (c : Cf) : Call := wpCall c.G.tab c.dep
theorem VA (W : Wf c) {pos : Pos} {es : List Expr} : ∀ {es' : Es} {s : Shared} {K : List V → Prop} {Q : List Value → Shared → Prop}, OkL c es es' → At c s → seqW (wpL (Φ c) c.hm c.X es' c.ρ) K →
    (∀ vs s' us, At c s' → Ext c.fr s.heap s'.heap → Rs (c.R s') vs us → us.length = es.length → K us → Q vs s') → c.wp (spliced (backTo pos (starEach es c.env))) Q s := by
  induction es with
  | nil =>
    intro es' s K Q h a w k
    cases es' with
    | nil => exact args_nil (k [] s [] a (Ext.refl _ _) .nil rfl w)
    | cons => exact h.elim
  | cons e es ih =>
    intro es' s K Q h a w k
    cases es' with
    | nil => exact h.elim
    | cons e' es' =>
      exact args_cons (h.1.ev s _ _ a w fun v s₁ u a₁ x₁ r w₁ => ih h.2 a₁ w₁ fun vs s₂ us a₂ x₂ rs l w₂ =>
        k (v :: vs) s₂ (u :: us) a₂ (x₁.trans x₂) (.cons (W.R r x₂) rs) (congrArg Nat.succ l) w₂) (h.1.pl _ _)
end
end TC

namespace TC
open PySem PySem.W PyProof.Rows

section
variable {c : Cf} {l r : Expr} {a b : TC.E} {pos p : Pos}
theorem QK {u : V} {P Q : Prop} {R : Prop} (w : ifB u P Q) (h : ∀ b, boolV u = some b → (b = true → P) → (b = false → Q) → R) : R :=
  Zx w fun b e w => h b e (fun q => by subst q; exact w) (fun q => by subst q; exact w)
theorem ZBa (W : Wf c) (h1 : Ok c l a) (h2 : Ok c r b) {po : Operator} {o : Op} (lo : lowOp po = some o) : OkE c (.BinOp l po r pos) (.op o a b) := fun s K Q A w k =>
  wpAny_BinOp (h1.ev s _ _ A w fun v1 s₁ u1 a1 x1 r1 w1 => h2.ev s₁ _ _ a1 w1 fun v2 s₂ u2 a2 x2 r2 w2 => bin_ok W.toWfC a2 (k.at (x1.trans x2)) (W.R r1 x2) r2 lo w2)
theorem ZBz {po : Operator} (h : isPow po = true) : po = .Pow := by
  cases po with
  | Pow => rfl
  | _ => exact nomatch h
theorem ZCz (W : Wf c) {po : Operator} (hp : isPow po = true) : All (lowPow (asIntC l) (asIntC r)) (OkE c (.BinOp l po r pos)) := by
  refine .bind fun i e1 => .bind fun j e2 => .ite fun q => .so fun s K Q A w k => ?_
  obtain ⟨_, _, rfl⟩ := XV l i e1
  obtain ⟨_, _, rfl⟩ := XV r j e2
  rw [ZBz hp]
  simp only [Bool.and_eq_true, decide_eq_true_eq] at q
  exact wpAny_BinOp (wpAny_Constant_int (wpAny_Constant_int (PyProof.Rows.pow_int_small (by omega) (by omega) (by omega) ((W.toWfC.ret A k w).int _ _))))

inductive Chn (c : Cf) : List CmpOp → List Op → List Expr → Es → Prop
  | one {p o e e'} : lowCmp p = some o → Ok c e e' → Chn c [p] [o] [e] (.cons e' .nil)
  | more {p o e e' p2 ps o2 os e2 es e2' es'} : lowCmp p = some o → Ok c e e' → Chn c (p2 :: ps) (o2 :: os) (e2 :: es) (.cons e2' es') → Chn c (p :: p2 :: ps) (o :: o2 :: os) (e :: e2 :: es) (.cons e' (.cons e2' es'))
noncomputable def chnP (c : Cf) (ps : List CmpOp) (rs : List Expr) (q : List Op × Es) : Prop := Chn c ps q.1 rs q.2 ∧ ∃ o os e es, q = (o :: os, .cons e es)
theorem WH {f : Expr → Option TC.E} (h : ∀ pe, All (f pe) (Ok c pe)) : ∀ ps rs, All (lowCs f ps rs) (chnP c ps rs)
  | [p], [e] => .bind fun o h1 => .map fun a h2 => ⟨.one h1 (h e a h2), _, _, _, _, rfl⟩
  | p :: p2 :: ps, e :: e2 :: rs => .bind fun o h1 => .bind fun a h2 => .map fun q h3 => by
      obtain ⟨h4, o2, os, e', es, rfl⟩ := WH h (p2 :: ps) (e2 :: rs) q h3
      exact ⟨.more h1 (h e a h2) h4, _, _, _, _, rfl⟩
  | [], _ => .no
  | [_], [] => .no
  | [_], _ :: _ :: _ => .no
  | _ :: _ :: _, [] => .no
  | _ :: _ :: _, [_] => .no
noncomputable def ChnOk (c : Cf) (pos : Pos) (ps : List CmpOp) (os : List Op) (rs : List Expr) (es : Es) : Prop := ∀ s v u K, At c s → c.R s v u → cmpW os (wpL (Φ c) c.hm c.X es c.ρ) u K →
    (∀ Q, Fin c s K Q → c.wp (compareChain pos v ps (evalEach rs c.env)) Q s) ∧ ∀ Q, (∀ u, K u → ∃ b, u = .d (.bool b)) → FinB c s K Q → c.wp (testChain pos v ps (evalEach rs c.env)) Q s
theorem Um (W : Wf c) {ps : List CmpOp} {os : List Op} {rs : List Expr} {es : Es} (h : Chn c ps os rs es) : ChnOk c pos ps os rs es := by
  induction h with
  | one h1 h2 =>
    refine fun s v u K A r w => ⟨fun Q k => chain_last (h2.ev s _ _ A w fun v2 s₂ u2 a2 x2 r2 w2 => Un W.toWfC a2 (k.at x2) (W.R r x2) r2 h1 w2), fun Q kb k => test_last (h2.ev s _ _ A w fun v2 s₂ u2 a2 x2 r2 w2 => Un W.toWfC a2 (fun v3 s₃ u3 a3 x3 r3 hk => ?_) (W.R r x2) r2 h1 w2)⟩
    obtain ⟨b, rfl⟩ := kb u3 hk
    rw [PR.inv r3]
    exact wpAny_truthy_bool (k b s₃ a3 (x2.trans x3) hk)
  | more h1 h2 h3 ih =>
    refine fun s v u K A r w => ⟨fun Q k => chain_link (h2.ev s _ _ A w fun v2 s₂ u2 a2 x2 r2 w2 => Un W.toWfC a2 (fun v3 s₃ u3 a3 x3 r3 w3 => ?_) (W.R r x2) r2 h1 w2), fun Q kb k => test_link (h2.ev s _ _ A w fun v2 s₂ u2 a2 x2 r2 w2 => Un W.toWfC a2 (fun v3 s₃ u3 a3 x3 r3 w3 => ?_) (W.R r x2) r2 h1 w2)⟩
    · refine QK w3 fun b e w4 w5 => ?_
      rw [r3.bool e]
      refine wpAny_truthy_bool ?_
      cases b with
      | true => exact (ih s₃ v2 u2 K a3 (W.R r2 x3) (w4 rfl)).1 Q (k.at (x2.trans x3))
      | false => exact k _ s₃ (.d (.bool false)) a3 (x2.trans x3) (PR.bool false) (w5 rfl)
    · refine QK w3 fun b e w4 w5 => ?_
      rw [r3.bool e]
      refine wpAny_truthy_bool ?_
      cases b with
      | true => exact (ih s₃ v2 u2 K a3 (W.R r2 x3) (w4 rfl)).2 Q kb fun b s' a x => k b s' a ((x2.trans x3).trans x)
      | false => exact k false s₃ a3 (x2.trans x3) (w5 rfl)
theorem ZBk (W : Wf c) (h1 : Ok c l a) {ps : List CmpOp} {os : List Op} {rs : List Expr} {es : Es} (hm : lastMarks ps rs = false) (hl : Chn c ps os rs es) : OkE c (.Compare l ps rs pos) (.cmp a os es) := fun s K Q A w k => by
  have go : ∀ {pos}, c.wp (eval l c.env) (fun v s₁ => c.wp (compareChain pos v ps (evalEach rs c.env)) Q s₁) s := fun {pos} =>
    h1.ev s _ _ A w fun v1 s₁ u1 a1 x1 r1 w1 => (Um W hl s₁ v1 u1 K a1 r1 w1).1 Q (k.at x1)
  cases hl with
  | one =>
    rw [eval_Compare1, markedBehindIn_of_false hm]
    exact wpAny_bind go
  | more => exact Compare_chain go hm
theorem ZBl (W : Wf c) (h1 : Ok c l a) {ps : List CmpOp} {os : List Op} {rs : List Expr} {es : Es} (hm : lastMarks ps rs = false) (hl : Chn c ps os rs es) : OkT c (.Compare l ps rs pos) (.cmp a os es) := fun s K Q A w kb k => by
  show c.wp (do testChain pos (← eval l c.env) ps (markedEach ps rs (evalEach rs c.env))) Q s
  rw [markedEach_of_false _ _ _ hm]
  exact wpAny_bind (h1.ev s _ _ A w fun v1 s₁ u1 a1 x1 r1 w1 => (Um W hl s₁ v1 u1 K a1 r1 w1).2 Q kb fun b s' a x => k b s' a (x1.trans x))
end
end TC

namespace TC
open PySem PySem.W PyProof.Rows

section
variable {c : Cf} {l r : Expr} {a b : TC.E} {pos p : Pos} {es : List Expr} {es' : Es}
theorem ZAs (W : Wf c) : ∀ {es' : Es}, OkL c es es' → OkE c (.BoolOp .And es pos) (.and es') := by
  induction es with
  | nil => intro es' h s K Q A w k; cases es' with | nil => exact w.elim | cons => exact h.elim
  | cons e es ih =>
    intro es' h s K Q A w k
    cases es' with
    | nil => exact h.elim
    | cons e' es' =>
    cases es with
    | nil => cases es' with
      | cons => exact h.2.elim
      | nil =>
        refine BoolOp_one (h.1.ev s _ _ A w fun v1 s₁ u1 a1 x1 r1 w1 => QK w1 fun b e w2 w3 => ?_)
        rw [Qq u1 b e] at r1
        cases b with
        | true => exact k _ _ _ a1 x1 r1 (w2 rfl)
        | false => exact k _ _ _ a1 x1 r1 (w3 rfl)
    | cons e2 es => cases es' with
      | nil => exact h.2.elim
      | cons e2' es' =>
        refine BoolOp_and (h.1.ev s _ _ A w fun v1 s₁ u1 a1 x1 r1 w1 => QK w1 fun b e w2 w3 => ?_)
        rw [r1.bool e]
        refine wpAny_truthy_bool ?_
        cases b with
        | true => exact ih h.2 s₁ K Q a1 (w2 rfl) (k.at x1)
        | false => exact k _ s₁ (.d (.bool false)) a1 x1 (PR.bool false) (w3 rfl)
theorem ZGn (W : Wf c) : ∀ {es' : Es}, OkL c es es' → OkE c (.BoolOp .Or es pos) (.or es') := by
  induction es with
  | nil => intro es' h s K Q A w k; cases es' with | nil => exact w.elim | cons => exact h.elim
  | cons e es ih =>
    intro es' h s K Q A w k
    cases es' with
    | nil => exact h.elim
    | cons e' es' =>
    cases es with
    | nil => cases es' with
      | cons => exact h.2.elim
      | nil =>
        refine BoolOp_one (h.1.ev s _ _ A w fun v1 s₁ u1 a1 x1 r1 w1 => QK w1 fun b e w2 w3 => ?_)
        rw [Qq u1 b e] at r1
        cases b with
        | true => exact k _ _ _ a1 x1 r1 (w2 rfl)
        | false => exact k _ _ _ a1 x1 r1 (w3 rfl)
    | cons e2 es => cases es' with
      | nil => exact h.2.elim
      | cons e2' es' =>
        refine BoolOp_or (h.1.ev s _ _ A w fun v1 s₁ u1 a1 x1 r1 w1 => QK w1 fun b e w2 w3 => ?_)
        rw [r1.bool e]
        refine wpAny_truthy_bool ?_
        cases b with
        | false => exact ih h.2 s₁ K Q a1 (w3 rfl) (k.at x1)
        | true => exact k _ s₁ (.d (.bool true)) a1 x1 (PR.bool true) (w2 rfl)
theorem Qm {u : V} {P Q : Prop} (w : ifB u P Q) : ∃ b, u = .d (.bool b) := QK w fun b e _ _ => ⟨b, Qq u b e⟩
theorem ZAt {whole : Sem Value} : ∀ {es' : Es}, OkL c es es' → ∀ s K Q, At c s → andW (wpL (Φ c) c.hm c.X es' c.ρ) K → FinB c s K Q → c.wp (isTrue (.BoolOp .And es pos) c.env whole) Q s := by
  induction es with
  | nil => intro es' h s K Q A w k; cases es' with | nil => exact w.elim | cons => exact h.elim
  | cons e es ih =>
    intro es' h s K Q A w k
    cases es' with
    | nil => exact h.elim
    | cons e' es' =>
    cases es with
    | nil => cases es' with
      | cons => exact h.2.elim
      | nil => exact isTrue_and (h.1.ts s _ _ A w (fun u => Qm) fun b s₁ a1 x1 w1 => by
          cases b with
          | false => exact k false s₁ a1 x1 w1
          | true => exact isTrue_and_nil (k true s₁ a1 x1 w1))
    | cons e2 es => cases es' with
      | nil => exact h.2.elim
      | cons e2' es' => exact isTrue_and (h.1.ts s _ _ A w (fun u => Qm) fun b s₁ a1 x1 w1 => by
          cases b with
          | false => exact k false s₁ a1 x1 w1
          | true => exact ih h.2 s₁ K Q a1 w1 fun b s' a x => k b s' a (x1.trans x))
theorem ZGo {whole : Sem Value} : ∀ {es' : Es}, OkL c es es' → ∀ s K Q, At c s → orW (wpL (Φ c) c.hm c.X es' c.ρ) K → FinB c s K Q → c.wp (isTrue (.BoolOp .Or es pos) c.env whole) Q s := by
  induction es with
  | nil => intro es' h s K Q A w k; cases es' with | nil => exact w.elim | cons => exact h.elim
  | cons e es ih =>
    intro es' h s K Q A w k
    cases es' with
    | nil => exact h.elim
    | cons e' es' =>
    cases es with
    | nil => cases es' with
      | cons => exact h.2.elim
      | nil => exact isTrue_or (h.1.ts s _ _ A w (fun u => Qm) fun b s₁ a1 x1 w1 => by
          cases b with
          | true => exact k true s₁ a1 x1 w1
          | false => exact isTrue_or_nil (k false s₁ a1 x1 w1))
    | cons e2 es => cases es' with
      | nil => exact h.2.elim
      | cons e2' es' => exact isTrue_or (h.1.ts s _ _ A w (fun u => Qm) fun b s₁ a1 x1 w1 => by
          cases b with
          | true => exact k true s₁ a1 x1 w1
          | false => exact ih h.2 s₁ K Q a1 w1 fun b s' a x => k b s' a (x1.trans x))
theorem ZCt (h : Ok c l a) : OkE c (.UnaryOp .Not l pos) (.f1 .not a) := fun s K Q A w k => UnaryOp_ (h.ev s _ _ A w fun v1 s₁ u1 a1 x1 r1 w1 => Zx (Jj w1).2 fun b e w2 => by
  rw [r1.bool e]
  exact not_of (wpAny_truthy_bool (k _ s₁ (.d (.bool !b)) a1 x1 (PR.bool _) w2)))
theorem ZCu (h : Ok c l a) : OkT c (.UnaryOp .Not l pos) (.f1 .not a) := fun s K Q A w kb k => isTrue_not (h.ts s _ _ A w (fun u w1 => Zx (Jj w1).2 fun b e _ => ⟨b, Qq u b e⟩) fun b s₁ a1 x1 w1 => k _ s₁ a1 x1 (Jj w1).2)
theorem Hb {x : Const} (h : isNoneC x = true) : x = .none := by
  cases x with
  | none => rfl
  | _ => exact nomatch h
theorem HZ (W : Wf c) {neg : Bool} {s : Shared} {v : Value} {u : V} {K : V → Prop} {Q : Value → Shared → Prop} (A : At c s) (r : c.R s v u) (w : qW (F1.quiet (cond neg .notNone .isNone)) c.hm (F1.W (cond neg .notNone .isNone) u K)) (k : Fin c s K Q) : c.wp (compareOp (cond neg .IsNot .Is) v .none) Q s := by
  cases neg with
  | false => exact Zx (Jj w).2 fun x e w => is_none_gen (Hc (W.rdf r x e) ▸ k _ s (.d (.bool (isNon x))) A (Ext.refl _ _) (PR.bool _) w)
  | true => exact Zx (Jj w).2 fun x e w => isnot_none_gen (Hc (W.rdf r x e) ▸ k _ s (.d (.bool !isNon x)) A (Ext.refl _ _) (PR.bool _) w)
theorem Ha (W : Wf c) (h : Ok c l a) (hn : isC isNoneC r = true) {neg : Bool} : OkE c (.Compare l [cond neg .IsNot .Is] [r] pos) (.f1 (cond neg .notNone .isNone) a) := fun s K Q A w k => by
  obtain ⟨x, _, _, rfl, h2⟩ := Xq hn
  rw [Hb h2]
  exact wpAny_Compare1 (h.ev s _ _ A w fun v1 s₁ u1 a1 x1 r1 w1 => PyProof.Rows.Constant_none (HZ W a1 r1 w1 (k.at x1))) (by cases neg <;> rfl)
theorem Hd (W : Wf c) (h : Ok c l a) (hn : isC isNoneC r = true) {neg : Bool} : OkT c (.Compare l [cond neg .IsNot .Is] [r] pos) (.f1 (cond neg .notNone .isNone) a) := fun s K Q A w kb k => by
  obtain ⟨x, i, p, rfl, h2⟩ := Xq hn
  rw [Hb h2]
  show c.wp (do testChain pos (← eval l c.env) [cond neg .IsNot .Is] (markedEach [cond neg .IsNot .Is] [.Constant .none i p] (evalEach [.Constant .none i p] c.env))) Q s
  rw [markedEach_of_false _ _ _ (by cases neg <;> rfl)]
  refine wpAny_bind (h.ev s _ _ A w fun v1 s₁ u1 a1 x1 r1 w1 => test_last (PyProof.Rows.Constant_none (HZ W a1 r1 w1 fun v2 s₂ u2 a2 x2 r2 w2 => ?_)))
  obtain ⟨b, rfl⟩ := kb u2 w2
  rw [PR.inv r2]
  exact wpAny_truthy_bool (k b s₂ a2 (x1.trans x2) w2)
theorem ZDx (W : Wf c) (h : OkL c es es') (hz : es.length < 1000) {i : Nat} : OkE c (.Tuple es i pos) (.tup es') := fun s K Q A w k => Tuple_ (VA W h A w fun vs s' us a x rs l w1 => Zx w1 fun xs e w2 =>
  UU W.toWfC a.toAtC (rs.keep (fun _ _ r => W.keep a.toAtC r) xs e) (by rw [rs.length, l]; exact hz) (W.ret a (k.at x) w2))
theorem ZCn (W : Wf c) (h : OkL c es es') (hz : es.length < 1000) : OkE c (.List es pos) (.lst es') := fun s K Q A w k => List_ (VA W h A w fun vs s' us a x rs l w1 => Zx w1 fun xs e w2 =>
  Wz a.toAtC (rs.keep (fun _ _ r => W.keep a.toAtC r) xs e) (by rw [rs.length, l]; exact hz) (W.ret a (k.at x) w2))
theorem ZBx (W : Wf c) (h1 : Ok c l a) (h2 : Ok c r b) : OkE c (.Subscript l r pos) (.idx a b) := fun s K Q A w k => Subscript_ (h1.ev s _ _ A w fun v1 s₁ u1 a1 x1 r1 w1 => h2.ev s₁ _ _ a1 w1 fun v2 s₂ u2 a2 x2 r2 w2 => Zx w2 fun i e w3 => by
  obtain ⟨t, rfl⟩ := r2.int e
  exact idx_ok W.toWfC a2 (W.R r1 x2) (k.at (x1.trans x2)) w3 (h2.ns _ _))
theorem Gu (W : Wf c) (h1 : Ok c l a) (h2 : Ok c r b) : OkE c (.Subscript l (.Slice (some r) none none p) pos) (.sfrom a b) := fun s K Q A w k => Subscript_ (h1.ev s _ _ A w fun v1 s₁ u1 a1 x1 r1 w1 => wpAny_Slice (h2.ev s₁ _ _ a1 w1 fun v2 s₂ u2 a2 x2 r2 w2 => Zx w2 fun i e w3 => Zx w3 fun xs e1 w4 => by
  obtain ⟨t, rfl⟩ := r2.int e
  rw [evalPart_none]
  exact wpAny_pure (wpAny_pure (ZEl a2.toAtC (W.ls a2.toAtC (W.R r1 x2) xs e1) w4.1.2.2 (.int i t) .none (Hj w4.1.1) (W.ret a2 (k.at (x1.trans x2)) w4.2) rfl))))
theorem ZAf (W : Wf c) (h1 : Ok c l a) (h2 : Ok c r b) : OkE c (.Subscript l (.Slice none (some r) none p) pos) (.sto a b) := fun s K Q A w k => Subscript_ (h1.ev s _ _ A w fun v1 s₁ u1 a1 x1 r1 w1 => wpAny_Slice (by
  rw [evalPart_none]
  exact wpAny_pure (h2.ev s₁ _ _ a1 w1 fun v2 s₂ u2 a2 x2 r2 w2 => Zx w2 fun i e w3 => Zx w3 fun xs e1 w4 => by
    obtain ⟨t, rfl⟩ := r2.int e
    exact wpAny_pure (ZEl a2.toAtC (W.ls a2.toAtC (W.R r1 x2) xs e1) w4.1.2.2 .none (.int i t) (Hk w4.1.1) (W.ret a2 (k.at (x1.trans x2)) w4.2) rfl))))
theorem ZDn (W : Wf c) {f : Expr → Option TC.E} (h : ∀ pe, All (f pe) (Ok c pe)) : All (lowSub f l r (view r)) (OkE c (.Subscript l r pos)) := by
  have q := JU r
  have gen : All ((f l).bind fun a => (f r).map fun i => TC.E.idx a i) (OkE c (.Subscript l r pos)) := .bind fun a h1 => .map fun b h2 => ZBx W (h l a h1) (h r b h2)
  revert q
  cases view r with
  | slice i j k p =>
    intro q
    rw [← q]
    rcases i with _ | i <;> rcases j with _ | j <;> rcases k with _ | k
    · exact .no
    · exact .no
    · exact .bind fun a h1 => .map fun b h2 => ZAf W (h l a h1) (h j b h2)
    · exact .no
    · exact .bind fun a h1 => .map fun b h2 => Gu W (h l a h1) (h i b h2)
    · exact .no
    · exact .no
    · exact .no
  | _ => exact fun _ => gen
theorem Qa {s : Shared} {Q : Value → Shared → Prop} {cal : Value} {pe : Expr} {rest : List Expr} (hc : isBT cal = true) (he : Plain pe) (hp : (backTo pos (starEach rest c.env)).any (·.1) = false)
    (h : c.wp (spliced (backTo pos (starEach (pe :: rest) c.env))) (fun vs s₁ => c.wp (call cal vs) Q s₁) s) : c.wp (callWith pos cal [] (backTo pos (starEach (pe :: rest) c.env)) []) Q s := by
  cases cal with
  | builtin id => exact PyProof.Rows.callWith_builtin1 h (he _ _) hp
  | type T => exact PyProof.Rows.callWith_type1 h (he _ _) hp
  | _ => exact nomatch hc
theorem Qf {α : Type} {l : List (Str × α)} {x : Str} {a : α} (h : l.lookup x = some a) : (x, a) ∈ l := mem_of_lookup h
theorem ZFi (W : Wf c) (h : Ok c l a) {f : Str} {g : F1} (hg : c.cx.glob f = true) (lo : f1Names.lookup f = some g) : OkE c (.Call (.Name f p) [l] [] pos) (.f1 g a) := fun s K Q A w k => by
  obtain ⟨b1, b2, b3⟩ := VD (f, g) (Qf lo)
  exact PyProof.Rows.Call_ (Jc W A.toAtC hg b2 b1 (Qa b3 h.pl rfl (args_cons (h.ev s _ _ A w fun v1 s₁ u1 a1 x1 r1 w1 => args_nil (ZFh W.toWfC a1 r1 (k.at x1) b3 (Jj w1).1 (Jj w1).2)) (h.pl _ _))))
theorem ZFl (W : Wf c) (h1 : Ok c l a) (h2 : Ok c r b) {f : Str} {g : F2} (hg : c.cx.glob f = true) (lo : f2Names.lookup f = some g) : OkE c (.Call (.Name f p) [l, r] [] pos) (.f2 g a b) := fun s K Q A w k => by
  obtain ⟨b1, b2, b3⟩ := ZFj (f, g) (Qf lo)
  exact PyProof.Rows.Call_ (Jc W A.toAtC hg b2 b1 (Qa b3 h1.pl (by rw [h2.pl]; rfl) (args_cons (h1.ev s _ _ A w fun v1 s₁ u1 a1 x1 r1 w1 =>
    args_cons (h2.ev s₁ _ _ a1 w1 fun v2 s₂ u2 a2 x2 r2 w2 => args_nil (ZFk W.toWfC a2 (W.R r1 x2) r2 ((Jj w2).1 rfl) (k.at (x1.trans x2)) b3 (Jj w2).2)) (h2.pl _ _)) (h1.pl _ _))))
theorem Gj (W : Wf c) (h : Ok c l a) (hg : c.cx.glob "len" = true) (hs : c.cx.glob "set" = true) {p2 pos2 : Pos} : OkE c (.Call (.Name "len" p) [.Call (.Name "set" p2) [l] [] pos2] [] pos) (.f1 .dist a) := fun s K Q A w k => by
  refine PyProof.Rows.Call_ (Jc W A.toAtC hg (by decide) (VD ("len", .len) (.head _)).1 (Qa rfl (fun _ _ => rfl) rfl (args_cons (PyProof.Rows.Call_ (Jc W A.toAtC hs (by decide) PyProof.Rows.boot_set (Qa rfl h.pl rfl (args_cons (h.ev s _ _ A w fun v1 s₁ u1 a1 x1 r1 w1 => args_nil ?_) (h.pl _ _))))) rfl)))
  refine Zx (Jj w1).2 fun x e1 w => Zx w fun xs e2 w => Zx w fun is e3 w => ?_
  exact Gi (HOk.none ((Jj w1).1 rfl ▸ a1.hok)) (W.rdf r1 x e1) e2 e3 w.1 fun d s' x2 m q => args_nil (q _ fun t tk => k.at (x1.trans x2) _ { s' with toks := tk } (.d (.int (is.foldl PyProof.Rows.step_dedup []).length)) (W.go a1 x2 ⟨m.1, m.2⟩) (Ext.refl _ _) (PR.int _ t) w.2)
theorem ZBd : bootBuiltins "reversed" = some (.type "reversed") := by decide +kernel
theorem ZDc (W : Wf c) (h : Ok c l a) (hg : c.cx.glob "list" = true) (hs : c.cx.glob "reversed" = true) {p2 pos2 : Pos} : OkE c (.Call (.Name "list" p) [.Call (.Name "reversed" p2) [l] [] pos2] [] pos) (.f1 .rev a) := fun s K Q A w k => by
  refine PyProof.Rows.Call_ (Jc W A.toAtC hg (by decide) (VD ("list", .list) (by simp [f1Names])).1 (Qa rfl (fun _ _ => rfl) rfl (args_cons (PyProof.Rows.Call_ (Jc W A.toAtC hs (by decide) ZBd (Qa rfl h.pl rfl (args_cons (h.ev s _ _ A w fun v1 s₁ u1 a1 x1 r1 w1 => args_nil ?_) (h.pl _ _))))) rfl)))
  refine Zx (Jj w1).2 fun xs e1 w => ?_
  obtain ⟨z, vs, n, rfl, ho, rs⟩ := W.ls a1.toAtC r1 xs e1
  have hl : s₁.heap.IsList z vs := ⟨_, ho, rfl, n, rfl⟩
  have lt : z < s₁.heap.objs.size := Heap.lt_size ho
  have sz := rs.size
  refine ZGt hl (args_nil (ZCl (s := { s₁ with heap := s₁.heap.push (rvO z vs.size) }) (HOk.none ((Jj w1).1 rfl ▸ a1.hok)) (Nat.ne_of_lt lt) ⟨_, Heap.get?_push_size _ rfl, rfl, rfl⟩ (hl.push _) (by rw [sz]; exact Jt w.1 (by rw [sizeLine_eq]; decide)) fun h' tk acc' c' kh e hacc => ?_))
  refine (W.ret a1 (k.at x1) w.2).new a1.toAtC (fun b o e => kh b o (Nat.ne_of_lt (Heap.lt_size e)) (JQ _ _ b o e)) (Heap.get?_none_of_le (by rw [Heap.size_push]; exact Nat.le_succ _)) e (PRs.of (by rw [Array.length_toList, hacc.1, List.length_reverse, sz]) fun i w' y e1 e2 => ?_) tk
  rw [Array.getElem?_toList] at e1
  have lti : i < vs.size := by rw [← hacc.1]; exact (Array.getElem?_eq_some_iff.mp e1).1
  have h1 := hacc.2 i w' e1
  rw [List.getElem?_reverse (by rw [← sz]; exact lti), ← sz] at e2
  exact rs.at _ w' y (by rw [Array.getElem?_toList]; exact h1) e2
theorem Wr (W : Wf c) {x : Str} {np ap : Pos} (hl : (ap.endLine == pos.line) = true) (h1 : Ok c (.Name x np) a) (h2 : Ok c r b) : OkE c (.Call (.Attribute (.Name x np) "index" ap) [r] [] pos) (.index a b) := fun s K Q A w k => by
  refine Call_method1 rfl (h2.pl _ _) hl (h1.ev s _ _ A w fun v1 s₁ u1 a1 x1 r1 w1 => Zx w1 fun y e1 w => Zx w fun xs e2 w => Zx w fun is e3 w => ?_)
  have L := (W.rdf r1 y e1).isL e2
  obtain ⟨z, vs, n, rfl, ho, rs⟩ := L
  have hL : s₁.heap.IsList z vs := ⟨_, ho, rfl, n, rfl⟩
  refine ⟨"list", "list.index", PySem.F.plainAttrs_list, PySem.F.slot_list_index, PySem.F.type_list_index, hL.typeIs, fun b e => ?_, ?_⟩
  · cases e; exact ⟨_, ho, rfl⟩
  · refine Calls.callWith_builtin rfl (Calls.evalArgs_plain (Calls.spliced_cons (h2.ev s₁ _ _ a1 w fun v2 s₂ u2 a2 x2 r2 w2 => Calls.spliced_nil (Zx w2 fun k' e4 w => ?_))))
    obtain ⟨t, rfl⟩ := r2.int e4
    exact Wq ((W.rdf (W.R r1 x2) y e1).isL e2) e3 w.1.1 w.1.2 (W.ret a2 (k.at (x1.trans x2)) w.2)
theorem UC (W : Wf c) (h : Ok c l a) (hg : c.cx.glob "sorted" = true) {kw : Keyword} (hk : asTrueKw kw = some "reverse") : OkE c (.Call (.Name "sorted" p) [l] [kw] pos) (.f1 .sortedR a) := fun s K Q A w k => by
  obtain ⟨ka, kv, kp⟩ := kw
  obtain ⟨x, e1, e2⟩ := Option.bind_eq_some_iff.mp hk
  have hv : isC isTrueC kv = true := by cases q : isC isTrueC kv with | true => rfl | false => rw [q] at e2; cases e2
  rw [hv] at e2
  cases e1
  cases e2
  obtain ⟨y, i, p1, rfl, h2⟩ := Xq hv
  have hy : y = .bool true := by cases y <;> first | exact congrArg Const.bool h2 | cases h2
  subst hy
  show c.wp (do callWith pos (← eval (.Name "sorted" p) c.env) [] (backTo pos (starEach [l] c.env)) (backToKw pos (keywordEach [⟨some "reverse", .Constant (.bool true) i p1, kp⟩] c.env))) Q s
  refine wpAny_bind (Jc W A.toAtC hg (by decide) (VD ("sorted", .sorted) (.tail _ (.tail _ (.tail _ (.tail _ (.tail _ (.tail _ (.head _)))))))).1 (callWith_kw (args_cons (h.ev s _ _ A w fun v1 s₁ u1 a1 x1 r1 w1 => args_nil ?_) (h.pl _ _)) (by rw [h.pl]; rfl) (by rw [h.pl]; rfl) rfl rfl))
  refine Zx (Jj w1).2 fun x e1 w => Zx w fun xs e2 w => Zx w fun is e3 w => ?_
  have fin := UB a1.toAtC ((W.rdf r1 x e1).isL e2) e3 w.1 (W.ret a1 (k.at x1) w.2)
  show c.wp (evalAll [do let v ← eval (.Constant (.bool true) i p1) c.env; standAt pos; pure v]) _ s₁
  unfold evalAll
  exact wpAny_bind (wpAny_bind (PyProof.Rows.Constant_bool (wpAny_bind (wpAny_standAt (wpAny_pure (wpAny_bind (wpAny_holding (wpAny_pure (wpAny_pure fin)))))))))
end
end TC

namespace TC
open PySem PySem.W PyProof.Rows

structure Fm (env : Env) (own : List (Str × Addr)) (h : Heap) : Prop where
  kf : env.scope.kind = .function
  ns : ∃ m, h.Ns env.locals m
  cell : ∀ x a, own.lookup x = some a → ∃ v, h.IsCell a v
  look : ∀ x a, own.lookup x = some a → env.cells.lookup x = some a
  inj : ∀ y a, env.cells.lookup y = some a → ∀ x, own.lookup x = some a → x = y
noncomputable def pls (env : Env) (own : List (Str × Addr)) : AP := fun b => b = env.locals ∨ ∃ x, own.lookup x = some b
theorem UW {h : Heap} {a : Addr} {m : Str → Option Value} (n : h.Ns a m) : ∃ o es ep, h.get? a = some o ∧ o.data = .dict es ep := by
  obtain ⟨o, es, ep, ho, hd, _⟩ := n; exact ⟨o, es, ep, ho, hd⟩
theorem QN {h : Heap} {a z : Addr} {m : Str → Option Value} {v : Option Value} (n : h.Ns a m) (q : h.IsCell z v) : z ≠ a := fun e => by
  obtain ⟨o, es, ep, ho, hd⟩ := UW n
  obtain ⟨o', ho', hd'⟩ := q
  rw [e, ho] at ho'; cases ho'; rw [hd] at hd'; cases hd'
theorem Fm.data {env : Env} {own : List (Str × Addr)} {h : Heap} (F : Fm env own h) {b : Addr} (hb : pls env own b) : ∃ o, h.get? b = some o ∧ NT o ∧ ∀ vs, o.data ≠ .fields vs := by
  rcases hb with rfl | ⟨x, q⟩
  · obtain ⟨m, n⟩ := F.ns
    obtain ⟨o, es, ep, ho, hd⟩ := UW n
    exact ⟨o, ho, (fun _ vs k q => by rw [hd] at q; cases q), fun vs q => by rw [hd] at q; cases q⟩
  · obtain ⟨v, o, ho, hd⟩ := F.cell x b q
    exact ⟨o, ho, (fun _ vs k q => by rw [hd] at q; cases q), fun vs q => by rw [hd] at q; cases q⟩
theorem Fm.is {env : Env} {own : List (Str × Addr)} {h : Heap} (F : Fm env own h) {b : Addr} (hb : pls env own b) : Is h b := by
  obtain ⟨o, e, n, _⟩ := F.data hb; exact ⟨o, e, n⟩
theorem Fm.on {env : Env} {own : List (Str × Addr)} {h h' : Heap} (F : Fm env own h) (k : ∀ b o, pls env own b → h.get? b = some o → h'.get? b = some o) : Fm env own h' := by
  obtain ⟨m, n⟩ := F.ns
  refine ⟨F.kf, ⟨m, n.at' fun o e => k _ o (.inl rfl) e⟩, fun x a e => ?_, F.look, F.inj⟩
  obtain ⟨v, o, h1, h2⟩ := F.cell x a e
  exact ⟨v, o, k a o (.inr ⟨x, e⟩) h1, h2⟩
theorem Fm.ext {env : Env} {own : List (Str × Addr)} {h h' : Heap} {fr : AP} (F : Fm env own h) (x : Ext fr h h') : Fm env own h' := by
  obtain ⟨m, n⟩ := F.ns
  exact ⟨F.kf, ⟨m, x.ns n⟩, fun y a e => let ⟨w, z⟩ := F.cell y a e; ⟨w, x.cell z⟩, F.look, F.inj⟩
noncomputable def Bindable (env : Env) (own : List (Str × Addr)) (x : Str) : Prop := env.kindOf x = some .local ∨ (env.kindOf x = some .cell ∧ ∃ a, own.lookup x = some a)
section
variable {prog : Program} {w : World} {env : Env} {hm : Bool} {A : Around} {s : Shared} {E : Value → Shared → Prop} {v : Value} {own : List (Str × Addr)} {M : Model}
theorem VP {x : Str} {Q : Unit → Shared → Prop} (F : Fm env own s.heap) (hx : Bindable env own x)
    (h : ∀ h' tk, Fm env own h' → (∀ b o, ¬ pls env own b → s.heap.get? b = some o → h'.get? b = some o) → varAt env h' x v → (∀ y w, y ≠ x → varAt env s.heap y w → varAt env h' y w) → Q () { s with heap := h', toks := tk }) :
    wpAny M A (storeName env x v) Q E s := by
  obtain ⟨m, n⟩ := F.ns
  rcases hx with hl | ⟨hl, a, ha⟩
  · refine wpAny_storeName_local hl n (fun h' n' sb => h h' _ ?_ (fun b o hb e => sb.extBut b o (fun q => hb (.inl q)) e) (.inl ⟨hl, _, n', by simp⟩) fun y w ne z => ?_) (by rw [F.kf]; rfl)
    · refine ⟨F.kf, ⟨_, n'⟩, fun y a e => ?_, F.look, F.inj⟩
      obtain ⟨w, q⟩ := F.cell y a e
      exact ⟨w, q.sameBut sb (QN n q)⟩
    · rcases z with ⟨k, m2, n2, hv⟩ | ⟨k, a, ha, q⟩
      · refine .inl ⟨k, _, n', ?_⟩
        simp only [if_neg ne]
        obtain ⟨o1, es1, ep1, a1, a2, _, a3⟩ := n
        obtain ⟨o2, es2, ep2, b1, b2, _, b3⟩ := n2
        rw [a1] at b1; cases b1
        rw [a2] at b2; cases b2
        rw [← a3, b3, hv]
      · exact .inr ⟨k, a, ha, q.sameBut sb (QN n q)⟩
  · obtain ⟨v0, q0⟩ := F.cell x a ha
    have off := QN n q0
    refine wpAny_storeName_cell F.kf hl (F.look x a ha) q0 fun h' q' sb => h h' s.toks ?_ (fun b o hb e => sb.extBut b o (fun q => hb (.inr ⟨x, q ▸ ha⟩)) e) (.inr ⟨.inl hl, a, F.look x a ha, q'⟩) fun y w ne z => ?_
    · refine ⟨F.kf, ⟨m, n.sameBut sb (Ne.symm off)⟩, fun y b e => ?_, F.look, F.inj⟩
      by_cases z : b = a
      · subst z; exact ⟨_, q'⟩
      · obtain ⟨w, q⟩ := F.cell y b e
        exact ⟨w, q.sameBut sb z⟩
    · rcases z with ⟨k, m2, n2, hv⟩ | ⟨k, b, hb, q⟩
      · exact .inl ⟨k, m2, n2.sameBut sb (Ne.symm off), hv⟩
      · refine .inr ⟨k, b, hb, q.sameBut sb fun z => ne ?_⟩
        subst z
        exact (F.inj y b hb x ha).symm

theorem UF {t : Addr} {items : Array Value} {n : Nat} {targets : List (Bool × (Value → Sem Unit))} {Q : Unit → Shared → Prop} (hk : HOk hm A s.heap) (ho : s.heap.get? t = some (tupObj items n)) (hn : targets.length = items.size) (hs : targets.findIdx? (·.1) = none)
    (h : ∀ h', (∀ b o, s.heap.get? b = some o → h'.get? b = some o) → wpAny (model prog w) A (assignInOrder (targets.map (·.2)) items.toList) Q E { s with heap := h' }) : wpAny (model prog w) A (unpack (.ref t) targets) Q E s := by
  have ht : s.heap.IsTuple t items := ⟨_, ho, rfl, n, rfl⟩
  have hlt : t ≠ s.heap.objs.size := Nat.ne_of_lt (Heap.lt_size ho)
  unfold unpack
  rw [hn, hs]
  refine wpAny_bind (wpAny_holding ?_)
  unfold unpackItems
  refine wpAny_bind ?_
  unfold notIterableAtAll
  refine wpAny_bind (wpAny_specialOf ht.typeIs F.slot_tuple_iter.lookup ?_)
  refine wpAny_pure ?_
  simp only [Bool.false_eq_true, if_false]
  refine wpAny_bind (wpAny_holding (wpAny_pyIter_tuple ht ?_))
  refine wpAny_bind (wpAny_holding (wpAny_draw_tuple hlt items.size 0 _ _ ⟨_, Heap.get?_push_size _ rfl, rfl, rfl⟩ (ht.push _) (by lia) fun h₁ hit₁ hs₁ => ?_))
  have hall : List.take items.size (List.drop 0 items.toList) = items.toList := by
    rw [List.drop_zero]; exact List.take_of_length_le (by simp)
  rw [hall]
  rw [if_neg (by simp)]
  have ht₁ : h₁.IsTuple t items := (ht.push _).extBut hs₁.extBut hlt
  have old : ∀ b o, s.heap.get? b = some o → h₁.get? b = some o := fun b o e => hs₁.extBut b o (Nat.ne_of_lt (Heap.lt_size e)) (Heap.get?_push_of_some _ e)
  refine wpAny_bind (wpAny_holding (UD (s := { s with heap := h₁ }) (hk.at fun b hb o e => old b o e) (fun e q z => ?_) hit₁ ht₁ (by simp) fun h₂ he₂ => ?_))
  · have := hk.lt e q
    rw [z] at this; exact Nat.lt_irrefl _ this
  simp only [Option.isSome_none, Bool.false_eq_true, if_false]
  exact wpAny_pure (h h₂ fun b o e => he₂ b o (Nat.ne_of_lt (Heap.lt_size e)) (old b o e))

noncomputable def VarsAt (env : Env) (h : Heap) (xs : List Str) (vs : List Value) : Prop := ∀ (i : Nat) x w, xs[i]? = some x → vs[i]? = some w → varAt env h x w
theorem Wd {Q : Unit → Shared → Prop} {xs : List Str} : ∀ {ps : List Pos} {vs : List Value} {s : Shared}, xs.length = vs.length → xs.length = ps.length → xs.Nodup → Fm env own s.heap → (∀ x ∈ xs, Bindable env own x) →
    (∀ h' tk, Fm env own h' → (∀ b o, ¬ pls env own b → s.heap.get? b = some o → h'.get? b = some o) → VarsAt env h' xs vs → (∀ y w, y ∉ xs → varAt env s.heap y w → varAt env h' y w) → Q () { s with heap := h', toks := tk }) →
    wpAny M A (assignInOrder ((xs.zip ps).map fun p => assign (.Name p.1 p.2) env) vs) Q E s := by
  induction xs with
  | nil =>
    intro ps vs s l _ _ F _ h
    cases vs with
    | nil => exact wpAny_pure (h s.heap s.toks F (fun _ _ _ e => e) (fun i x w e => nomatch e) fun _ _ _ a => a)
    | cons => exact nomatch l
  | cons x xs ih =>
    intro ps vs s l l2 nd F hb h
    cases vs with
    | nil => exact nomatch l
    | cons v vs =>
    cases ps with
    | nil => exact nomatch l2
    | cons p ps =>
      obtain ⟨nx, nd⟩ := List.nodup_cons.mp nd
      refine wpAny_bind (wpAny_holding (wpAny_bind (wpAny_standAt (wpAny_bindName (VP F (hb x (.head _)) fun h1 tk F1 k1 a1 o1 => ?_)))))
      refine ih (ps := ps) (vs := vs) (s := { s with heap := h1, toks := tk }) (Nat.succ.inj l) (Nat.succ.inj l2) nd F1 (fun y hy => hb y (.tail _ hy)) fun h2 tk2 F2 k2 a2 o2 => ?_
      refine h h2 tk2 F2 (fun b o hb e => k2 b o hb (k1 b o hb e)) (fun i y w e1 e2 => ?_) fun y w hy a => o2 y w (fun q => hy (.tail _ q)) (o1 y w (fun q => hy (q ▸ .head _)) a)
      cases i with
      | zero => cases e1; cases e2; exact o2 x v nx a1
      | succ i => exact a2 i y w e1 e2
end
theorem WI {es : List Expr} : All (asNames es) fun l => ∃ ps : List Pos, l.length = ps.length ∧ es = (l.zip ps).map fun p => .Name p.1 p.2 := by
  induction es with
  | nil => exact .so ⟨[], rfl, rfl⟩
  | cons e es ih =>
    refine .bind fun x h1 => .map fun l h2 => ?_
    obtain ⟨p, rfl⟩ := Jo e x h1
    obtain ⟨ps, h3, rfl⟩ := ih l h2
    exact ⟨p :: ps, congrArg Nat.succ h3, rfl⟩
theorem XN {env : Env} (l : List (Str × Pos)) : (assignEach (l.map fun p => Expr.Name p.1 p.2) env) = l.map fun p => (false, assign (.Name p.1 p.2) env) := by
  induction l with
  | nil => rfl
  | cons p l ih => exact congrArg ((false, assign (.Name p.1 p.2) env) :: ·) ih
theorem ZGc {α : Type} (l : List (Str × Pos)) (f : Str × Pos → α) : (l.map fun p => (false, f p)).findIdx? (·.1) = none := by
  induction l with
  | nil => rfl
  | cons p l ih => rw [List.map_cons, List.findIdx?_cons, ih]; rfl

section
variable {c : Cf} {s : Shared} {v : Value} {u : V} {own : List (Str × Addr)}
inductive IsT (c : Cf) (s : Shared) (v : Value) (us : List V) : Prop
  | mk (t : Addr) (items : Array Value) (m : Nat) : v = .ref t → s.heap.get? t = some (tupObj items m) → ¬ c.fr t → Rs (c.R s) items.toList us → IsT c s v us
theorem PRs.rs {P : AP} {R : Value → V → Prop} {f : PyData → V} {h : Heap} (k : ∀ v x, PR P h v x → R v (f x)) {xs : List PyData} : ∀ {vs : List Value}, PRs P h vs xs → Rs R vs (xs.map f) := by
  induction xs with
  | nil => intro vs r; rw [show vs = [] from r.inv]; exact .nil
  | cons x xs ih => intro vs r; obtain ⟨v, ws, rfl, a, b⟩ := r.inv; exact .cons (k v x a) (ih b)
theorem VN (W : WfC c) (a : AtC c s) (r : c.R s v u) (n : Nat) : All (partsV u n) (IsT c s v) := by
  cases u with
  | d x => cases x with
    | tuple xs =>
      intro us e
      obtain ⟨_, rfl⟩ := JX e
      obtain ⟨t, vs, m, h1, h2, h3, h4⟩ := PR.inv r
      exact ⟨t, vs, m, h1, h3, fun q => h2 (W.sub t q), h4.rs fun _ _ q => q⟩
    | _ => exact .no
  | brw x => cases x with
    | tuple xs =>
      intro us e
      obtain ⟨_, rfl⟩ := JX e
      obtain ⟨t, vs, m, h1, h2, h3, h4⟩ := PR.inv r
      exact ⟨t, vs, m, h1, h3, h2, h4.rs fun _ _ q => Wu a q⟩
    | _ => exact .no
  | own x => exact .no
  | exc k => exact .no
  | rg k => exact .no
theorem QW {n : Nat} : All (partsV u n) fun us => us.length = n := by
  cases u with
  | d x => cases x with
    | tuple xs => exact fun us e => by obtain ⟨h, rfl⟩ := JX e; rw [List.length_map, h]
    | _ => exact .no
  | brw x => cases x with
    | tuple xs => exact fun us e => by obtain ⟨h, rfl⟩ := JX e; rw [List.length_map, h]
    | _ => exact .no
  | own x => exact .no
  | exc k => exact .no
  | rg k => exact .no
end
end TC

namespace TC
open PySem PySem.W PyProof.Rows

noncomputable def Pln (u : V) : Prop := (∃ x, u = .d x) ∨ ∃ x, u = .brw x
inductive Src (c : Cf) (s : Shared) (v₀ : Value) (h' : Heap) (us : List V) : Prop
  | mk (It : Nat → Value → Prop) (src : Value) : Itr c.G.prog c.G.w c.A s.heap.objs.size us.length It h' src → (∀ b, src = .ref b → v₀ = src ∧ ¬ c.fr b ∧ ∃ o, s.heap.get? b = some o ∧ ∀ vs, o.data ≠ .fields vs) → (∀ i v u, It i v → us[i]? = some u → c.R s v u) → (∀ u ∈ us, Pln u) → Src c s v₀ h' us
section
variable {c : Cf} {s : Shared} {v : Value} {u : V} {x : PyData} {xs : List PyData}
theorem Ud {P : AP} (a : At c s) (r : PR P s.heap v x) (s1 : ∀ b, c.fr b → P b) (e : seqOf x = some xs) {f : PyData → V} (hf : ∀ w y, PR P s.heap w y → c.R s w (f y)) (hp : ∀ y, Pln (f y)) {Q : Value → Shared → Prop} (k : ∀ h', Keep s.heap h' → Src c s v h' (xs.map f) → Q (.ref s.heap.objs.size) { s with heap := h' }) : c.wp (pyIter v) Q s := by
  refine Qv (hm := c.hm) a.hok r e fun h' vs q kh it => k h' kh ⟨fun i w => vs[i]? = some w, v, (by rw [List.length_map]; exact it), fun b hb => ?_, fun i w u p hu => ?_, fun u hu => ?_⟩
  · subst hb
    have i := r.inv
    cases x with
    | list ys => obtain ⟨l, vs, n, e', na, ho, _⟩ := i; cases e'; exact ⟨rfl, fun z => na (s1 _ z), _, ho, fun _ e => nomatch e⟩
    | tuple ys => obtain ⟨l, vs, n, e', na, ho, _⟩ := i; cases e'; exact ⟨rfl, fun z => na (s1 _ z), _, ho, fun _ e => nomatch e⟩
    | _ => exact nomatch e
  · rw [← Array.getElem?_toList] at p
    obtain ⟨y, h1, h2⟩ := q.get' p
    rw [List.getElem?_map, h1] at hu
    exact Option.some.inj hu ▸ hf w y h2
  · obtain ⟨y, _, rfl⟩ := List.mem_map.mp hu; exact hp y
theorem UQ (y : PyData) : Pln (low y) := by
  unfold low
  cases flat y with
  | true => exact .inl ⟨y, rfl⟩
  | false => exact .inr ⟨y, rfl⟩
theorem VH (W : WfC c) (a : At c s) (r : c.R s v u) : All (itemsV c.hm u) fun us => ∀ Q : Value → Shared → Prop, (∀ h', Keep s.heap h' → Src c s v h' us → Q (.ref s.heap.objs.size) { s with heap := h' }) → c.wp (pyIter v) Q s := by
  cases u with
  | d x => exact .map fun xs e Q k => Ud (f := V.d) a r W.sub e (fun _ _ q => q) (fun y => .inl ⟨y, rfl⟩) k
  | own x => exact .map fun xs e Q k => Ud (f := V.d) a (W.keep a.toAtC r x rfl) W.sub e (fun _ _ q => q) (fun y => .inl ⟨y, rfl⟩) k
  | brw x => exact .map fun xs e Q k => Ud a r (fun _ q => q) e (fun _ _ q => Wu a.toAtC q) UQ k
  | rg n =>
    unfold itemsV
    cases hh : c.hm with
    | true => exact .no
    | false =>
      refine .so fun Q k => ?_
      obtain ⟨r, t1, t2, t3, rfl, nr, l, ir⟩ := r
      refine Ws (hh ▸ a.hok) ir l fun h' kh it => k h' kh ⟨fun i w => ∃ t, w = .int i t, .none, ?_, (fun b hb => nomatch hb), fun i w u p hu => ?_, fun u hu => ?_⟩
      · rw [List.length_map, rangeL, List.length_map, List.length_range]; exact it
      · obtain ⟨t, rfl⟩ := p
        rw [List.getElem?_map, rangeL, List.getElem?_map] at hu
        obtain ⟨z, e1, rfl⟩ := Option.map_eq_some_iff.mp hu
        obtain ⟨j, e2, rfl⟩ := Option.map_eq_some_iff.mp e1
        obtain ⟨_, e3⟩ := List.getElem?_eq_some_iff.mp e2
        rw [List.getElem_range] at e3
        exact e3 ▸ PR.int _ _
      · obtain ⟨z, _, rfl⟩ := List.mem_map.mp hu; exact .inl ⟨_, rfl⟩
  | exc k => exact .no
end
section
variable {A : Around} {s : Shared} {E : Value → Shared → Prop} {env : Env}
theorem JV : ∀ (names : List (Str × NameKind)) (n : Nat) (acc : List (Str × Addr)), cellsFrom n names acc = cellsFrom n names [] ++ acc
  | [], _, _ => rfl
  | (x, k) :: r, n, acc => by
    unfold cellsFrom
    split
    · rw [JV r (n + 1) ((x, n) :: acc), JV r (n + 1) [(x, n)]]; simp
    · exact JV r n acc
theorem QI : ∀ (names : List (Str × NameKind)) (n : Nat) (x : Str) (c : Addr), (x, c) ∈ cellsFrom n names [] → (x, NameKind.cell) ∈ names
  | [], _, _, _, h => by cases h
  | (y, k) :: r, n, x, c, h => by
    unfold cellsFrom at h
    split at h
    · rename_i q
      rw [JV] at h
      rcases List.mem_append.mp h with h | h
      · exact .tail _ (QI r _ x c h)
      · simp only [List.mem_singleton, Prod.mk.injEq] at h
        rw [h.1, beq_iff_eq.mp q]; exact .head _
    · exact .tail _ (QI r _ x c h)
theorem Jm : ∀ (names : List (Str × NameKind)) (n : Nat) (x : Str), (x, NameKind.cell) ∈ names → ∃ c, (x, c) ∈ cellsFrom n names []
  | (y, k) :: r, n, x, h => by
    unfold cellsFrom
    rcases List.mem_cons.mp h with e | h
    · cases e
      rw [if_pos (by rfl), JV]
      exact ⟨n, List.mem_append_right _ (.head _)⟩
    · split
      · rw [JV]
        obtain ⟨c, hc⟩ := Jm r (n + 1) x h
        exact ⟨c, List.mem_append_left _ hc⟩
      · exact Jm r n x h
theorem JH {α : Type} : ∀ {l : List (Str × α)}, (l.map (·.1)).Nodup → ∀ {x : Str} {c : α}, (x, c) ∈ l → l.lookup x = some c
  | (y, d) :: r, nd, x, c, h => by
    obtain ⟨n1, n2⟩ := List.nodup_cons.mp nd
    rw [List.lookup_cons]
    rcases List.mem_cons.mp h with e | h
    · cases e; simp
    · cases hx : x == y with
      | true => rw [beq_iff_eq.mp hx] at h; exact absurd (List.mem_map.mpr ⟨_, h, rfl⟩) n1
      | false => exact JH n2 h
theorem Jg : ∀ (names : List (Str × NameKind)) (n : Nat), (cellsFrom n names []).map (·.1) = ((names.filter (·.2 == .cell)).map (·.1)).reverse
  | [], _ => rfl
  | (x, k) :: r, n => by
    unfold cellsFrom
    split
    · rename_i q; rw [JV, List.map_append, Jg r]; simp [q]
    · rename_i q; rw [Jg r]; simp [q]
theorem Xb {target : Expr} {I : Addr} {v : Value} {o : Obj} {n : String} {M : Model} {Q : Unit → Shared → Prop} (h1 : s.heap.get? I = some o) (h2 : o.cls = .type n) (h3 : quietIt n = true) (h : Q () s) : wpAny M A (letOwnedTupleGo target (.ref I) v) Q E s := by
  have go : wpAny M A (letOwnedTupleGo target (.ref I) v) Q E s := by
    unfold letOwnedTupleGo
    have both : ∀ a : Addr, wpAny M A (do
        let o ← load I
        match o.cls, o.data with
        | .type n, .fields vs =>
          if ["enumerate", "zip", "dict_itemiterator", "dict_reverseitemiterator", "odict_iterator", "itertools.zip_longest", "itertools.pairwise"].contains n && vs[0]? == some (rawInt a) then
            rule "for.unpacks-the-owned-tuple"
            updateField I 0 .none
        | _, _ => pure ()) Q E s := fun a => by
      refine wpAny_bind (wpAny_load h1 ?_)
      rw [h2]
      unfold quietIt at h3
      rw [Bool.not_eq_true'] at h3
      cases o.data with
      | fields vs => dsimp only; rw [h3, Bool.false_and, if_neg (by decide)]; exact wpAny_pure h
      | _ => exact wpAny_pure h
    cases target with
    | Tuple => cases v <;> first | exact both _ | exact wpAny_pure h
    | List => cases v <;> first | exact both _ | exact wpAny_pure h
    | _ => exact wpAny_pure h
  exact go

theorem Va {prog : Program} {w : World} {l : Addr} {vs : Array Value} {n : Nat} {x : Value} {Q : Value → Shared → Prop} (ho : s.heap.get? l = some (listObj vs n)) (hsz : vs.size ≤ sizeLine)
    (h : ∀ h' n', h'.get? l = some (listObj (vs.push x) n') → (∀ b o, b ≠ l → s.heap.get? b = some o → h'.get? b = some o) → Q .none { s with heap := h' }) : wpAny (model prog w) A (call (.builtin "list.append") [.ref l, x]) Q E s := by
  have hl : s.heap.IsList l vs := ⟨_, ho, rfl, n, rfl⟩
  refine wpAny_call_entry slot_list_append hl.typeIs entry_list_append ?_ (args_list_append _ _)
  show wpAny _ _ (updateSeq l (·.push x) >>= fun _ => ret .none) _ _ s
  refine wpAny_bind ?_
  obtain ⟨n', hd'⟩ := Obj.data_mapSeq (o := listObj vs n) rfl (·.push x)
  refine wpAny_updateSeq ho rfl (wpAny_pure ⟨.none, rfl, h _ n' ?_ fun b o hb e => (Heap.get?_update_other _ _ (Ne.symm hb)).trans e⟩)
  have e := Heap.get?_update_self (Obj.mapSeq (·.push x)) ho (Obj.isFreed_of_seq hd')
  rw [e]
  have : Obj.mapSeq (·.push x) (listObj vs n) = listObj (vs.push x) n' := by
    unfold Obj.mapSeq at hd' ⊢
    simp only at hd' ⊢
    injection hd' with _ q
    rw [← q]
  rw [this]

theorem Xs {prog : Program} {w : World} {elt target iter : Expr} {ifs : List Expr} {scope : Scope} {pos : Pos} {it acc : Value} {env : Env} {R : Result → Shared → Prop} (I : Nat → Shared → Prop)
    (turn : ∀ n s, I n s → wpAny (model prog w) A (pyNext it) (fun r s₁ => match r with
      | none => R (.ok .next) s₁
      | some v => wpAny (model prog w) A (letOwnedTupleGo target it v) (fun _ s₁' => wpAny (model prog w) A (assign target env v) (fun _ s₂ =>
          wpAny (model prog w) A (forIn ifs true fun c r => if r = true then do let ok ← isTrue c env (eval c env); pure (ForInStep.yield ok) else pure (ForInStep.yield r)) (fun ok s₃ =>
            if ok = true then wpAny (model prog w) A (eval elt env) (fun x s₄ =>
              wpAny (model prog w) A (call (.builtin "list.append") [acc, x]) (fun _ s₅ => ∃ m, m < n ∧ I m s₅) (notedBy (model prog w) A env fun e s' => R (.error e) s') s₄) (notedBy (model prog w) A env fun e s' => R (.error e) s') s₃
            else ∃ m, m < n ∧ I m s₃) (notedBy (model prog w) A env fun e s' => R (.error e) s') s₂) (notedBy (model prog w) A env fun e s' => R (.error e) s') s₁') (notedBy (model prog w) A env fun e s' => R (.error e) s') s₁) (notedBy (model prog w) A env fun e s' => R (.error e) s') s)
    (n : Nat) (h : I n s) : codeAny (model prog w) A (.compLoop (.ListComp elt [⟨target, iter, ifs, 0⟩] scope pos) 0 it acc env) R s := by
  refine codeAny_loop rfl I (fun n s hI => ?_) n h
  show wpAny _ A ((compTurn (.ListComp elt [⟨target, iter, ifs, 0⟩] scope pos) 0 it acc env).onRaise (fun x => do noteFrame x env; theTreesLotGoes x)) _ _ s
  refine wpAny_noted ?_
  rw [compTurn_list]
  refine wpAny_bind (wpAny_standAt (wpAny_bind (wpAny_mono (turn n s hI) (fun r s₁ h₁ => ?_) fun _ _ h' => h')))
  cases r with
  | none => exact wpAny_pure h₁
  | some v =>
    refine wpAny_bind (wpAny_mono h₁ (fun _ s₁' h₁' => ?_) fun _ _ h' => h')
    refine wpAny_bind (wpAny_mono h₁' (fun _ s₂ h₂ => wpAny_bind (wpAny_mono h₂ (fun ok s₃ h₃ => ?_) fun _ _ h' => h')) fun _ _ h' => h')
    cases ok with
    | false => exact wpAny_pure ⟨rfl, h₃⟩
    | true =>
      exact wpAny_bind (wpAny_bind (wpAny_mono h₃ (fun x s₄ h₄ => wpAny_bind (wpAny_mono h₄ (fun _ s₅ h₅ => wpAny_pure (wpAny_pure ⟨rfl, h₅⟩)) fun _ _ h' => h')) fun _ _ h' => h'))

theorem ZBn {sc : Scope} {cl : List (Str × Addr)} {M : Model} {Q : Env → Shared → Prop}
    (h : Q { scope := sc, locals := s.heap.objs.size, globals := env.globals, cells := cellsFrom (s.heap.objs.size + 1) sc.names [] ++ cl, qual := env.qual, func := none, code := env.code, frame := env.frame, builtins := env.builtins }
      { s with heap := pushCells (s.heap.push { cls := .type "dict", data := .dict #[] }) sc.names }) : wpAny M A (newFunctionEnv sc env.globals cl [] env.qual none .none (some env)) Q E s := by
  simp only [newFunctionEnv, Option.isSome_some, if_true]
  refine wpAny_bind (wpAny_alloc ?_)
  refine wpAny_bind (wpAny_layCells _ (fun name kind cells => by cases hkc : kind == NameKind.cell <;> simp [hkc]) _ _ _ _ ?_)
  rw [show ({ s with heap := s.heap.push { cls := .type "dict", data := .dict #[] } } : Shared).heap.objs.size = s.heap.objs.size + 1 from Heap.size_push ..]
  rw [JV]
  simp only [List.forIn_nil]
  exact wpAny_bind (wpAny_pure (wpAny_pure h))

end

theorem QX (kd : List (Str × NameKind)) (names : List (Str × NameKind)) (x : Str) : (relab kd names).lookup x = (names.lookup x).map fun k => cond (k == .free && kd.lookup x == some .cell) .cell k := by
  induction names with
  | nil => rfl
  | cons p r ih =>
    obtain ⟨y, k⟩ := p
    show (List.lookup x ((if (k == .free && kd.lookup y == some .cell) = true then (y, .cell) else (y, k)) :: relab kd r)) = _
    cases hx : x == y with
    | true =>
      obtain rfl := beq_iff_eq.mp hx
      cases q : (k == NameKind.free && kd.lookup x == some .cell) <;> simp [List.lookup_cons, q]
    | false => split <;> rw [List.lookup_cons, List.lookup_cons, hx] <;> exact ih
theorem UK {env : Env} (f : Str × NameKind → List (Str × Addr) → Sem (ForInStep (List (Str × Addr))))
    (hf : ∀ name kind cells, f (name, kind) cells = if kind == .free then (do let a ← cellOf env name; pure (.yield ((name, a) :: cells))) else pure (.yield cells)) :
    ∀ (names : List (Str × NameKind)) (acc : List (Str × Addr)), (∀ x, (x, NameKind.free) ∈ names → ∃ c, env.cells.lookup x = some c) → ∃ cl, (forIn names acc f : Sem _) = pure cl ∧ (∀ x, ((x, NameKind.free) ∈ names ∨ acc.lookup x = env.cells.lookup x) → cl.lookup x = env.cells.lookup x) ∧
      ∀ x c, cl.lookup x = some c → acc.lookup x = some c ∨ env.cells.lookup x = some c
  | [], acc, _ => ⟨acc, by rw [List.forIn_nil], fun x h => h.elim (fun q => by cases q) id, fun x c e => .inl e⟩
  | (y, k) :: r, acc, h => by
    rw [List.forIn_cons, hf]
    cases q : (k == NameKind.free) with
    | true =>
      obtain rfl := beq_iff_eq.mp q
      obtain ⟨c, hc⟩ := h y (.head _)
      obtain ⟨cl, h1, h2, h3⟩ := UK f hf r ((y, c) :: acc) fun x hx => h x (.tail _ hx)
      refine ⟨cl, ?_, fun x hx => h2 x ?_, fun x d e => ?_⟩
      · rw [if_pos rfl]
        unfold cellOf
        rw [hc]
        exact h1
      · by_cases z : x = y
        · right; rw [z, List.lookup_cons]; simp [hc]
        · rcases hx with hx | hx
          · rcases List.mem_cons.mp hx with e | e
            · cases e; exact absurd rfl z
            · exact .inl e
          · right; rw [List.lookup_cons, show (x == y) = false from Bool.eq_false_iff.mpr fun q => z (beq_iff_eq.mp q)]; exact hx
      · rcases h3 x d e with q | q
        · rw [List.lookup_cons] at q
          cases hx : x == y with
          | true => rw [hx] at q; cases q; rw [beq_iff_eq.mp hx]; exact .inr hc
          | false => rw [hx] at q; exact .inl q
        · exact .inr q
    | false =>
      obtain ⟨cl, h1, h2, h3⟩ := UK f hf r acc fun x hx => h x (.tail _ hx)
      refine ⟨cl, ?_, fun x hx => h2 x (hx.imp_left fun hx => ?_), h3⟩
      · rw [if_neg (by decide)]
        exact h1
      · rcases List.mem_cons.mp hx with e | e
        · cases e; cases q
        · exact e
theorem Xn {env : Env} {sc : Scope} (h : ∀ x, (x, NameKind.free) ∈ sc.names → ∃ c, env.cells.lookup x = some c) :
    ∃ cl, closureFor sc env = pure cl ∧ (∀ x, (x, NameKind.free) ∈ sc.names → cl.lookup x = env.cells.lookup x) ∧ ∀ x c, cl.lookup x = some c → env.cells.lookup x = some c := by
  obtain ⟨cl, h1, h2, h3⟩ := UK (env := env) (fun p cells => if p.2 == .free then (do let a ← cellOf env p.1; pure (.yield ((p.1, a) :: cells))) else pure (.yield cells)) (fun _ _ _ => rfl) sc.names [] h
  refine ⟨cl, ?_, fun x hx => h2 x (.inl hx), fun x c e => (h3 x c e).elim (fun q => by cases q) id⟩
  unfold closureFor
  refine Eq.trans (congrArg (· >>= fun cs => pure cs) (Eq.trans ?_ h1)) rfl
  refine congrArg (forIn sc.names []) (funext fun p => funext fun cells => ?_)
  obtain ⟨x, k⟩ := p
  show (if (k == NameKind.free) = true then _ else _) = (if (k == NameKind.free) = true then _ else _)
  split <;> first | rfl | simp

theorem Jf {cx cx' : Cx} {sc : Scope} {xs : List Str} (h : cx.inner sc xs = some cx') : sc.kind = .function ∧ (sc.names.map (·.1)).Nodup ∧ xs.Nodup ∧ (∀ x ∈ xs, sc.names.lookup x = some .local ∨ sc.names.lookup x = some .cell) ∧
    ∃ fs, freeOf cx.kd cx.tb cx.nx sc.names = some fs ∧ cx' = { cx with kd := relab cx.kd sc.names, tb := (xs.zip (List.range' cx.nx xs.length)) ++ fs, nx := cx.nx + xs.length, ow := [] } := by
  unfold Cx.inner at h
  cases q : (sc.kind == ScopeKind.function && decide (sc.names.map (·.1)).Nodup && decide xs.Nodup && xs.all (fun x => sc.names.lookup x == some .local || sc.names.lookup x == some .cell)) with
  | false => rw [q] at h; cases h
  | true =>
    rw [q] at h
    simp only [Bool.and_eq_true, beq_iff_eq, decide_eq_true_eq, List.all_eq_true, Bool.or_eq_true] at q
    obtain ⟨⟨⟨c1, c3⟩, c4⟩, c5⟩ := q
    obtain ⟨fs, h1, h2⟩ := Option.map_eq_some_iff.mp h
    exact ⟨c1, c3, c4, c5, fs, h1, h2.symm⟩
theorem Qe {kd : List (Str × NameKind)} {tb : List (Str × Nat)} {nx : Nat} {names : List (Str × NameKind)} : All (freeOf kd tb nx names) fun fs =>
    (∀ x i, fs.lookup x = some i → tb.lookup x = some i ∧ i < nx ∧ (x, NameKind.free) ∈ names) ∧ ∀ x, (x, NameKind.free) ∈ names → kd.lookup x = some .cell ∨ kd.lookup x = some .free := by
  induction names with
  | nil => exact .so ⟨(fun x i e => nomatch e), fun x e => nomatch e⟩
  | cons p r ih =>
    obtain ⟨y, k⟩ := p
    refine .cond (fun hk => ?_) (fun hk fs h => ?_)
    · obtain rfl : k = .free := beq_iff_eq.mp hk
      refine .ite fun q => .bind fun i h1 => .ite fun lt => .map fun gs h3 => ?_
      obtain ⟨g1, g2⟩ := ih gs h3
      refine ⟨fun x j e => ?_, fun x e => ?_⟩
      · rw [List.lookup_cons] at e
        cases hx : x == y with
        | true => rw [hx] at e; cases e; rw [beq_iff_eq.mp hx]; exact ⟨h1, of_decide_eq_true lt, .head _⟩
        | false => rw [hx] at e; obtain ⟨a, b, z⟩ := g1 x j e; exact ⟨a, b, .tail _ z⟩
      · rcases List.mem_cons.mp e with e | e
        · cases e
          simp only [Bool.or_eq_true, beq_iff_eq] at q
          exact q
        · exact g2 x e
    · obtain ⟨g1, g2⟩ := ih fs h
      refine ⟨fun x j e => let ⟨a, b, z⟩ := g1 x j e; ⟨a, b, .tail _ z⟩, fun x e => ?_⟩
      rcases List.mem_cons.mp e with e | e
      · cases e; exact nomatch hk
      · exact g2 x e
end TC

namespace TC
open PySem PySem.W PyProof.Rows

theorem Je {α : Type} (a b : List (Str × α)) (x : Str) : (a ++ b).lookup x = (a.lookup x).elim (b.lookup x) some := by
  induction a with
  | nil => rfl
  | cons p a ih =>
    rw [List.cons_append, List.lookup_cons, List.lookup_cons]
    cases x == p.1 with
    | true => rfl
    | false => exact ih
theorem GT {xs : List Str} : ∀ {m : Nat} {x : Str}, All ((xs.zip (List.range' m xs.length)).lookup x) fun j => ∃ i, xs[i]? = some x ∧ j = m + i := by
  induction xs with
  | nil => exact .no
  | cons y xs ih =>
    intro m x j e
    rw [List.length_cons, List.range'_succ, List.zip_cons_cons, List.lookup_cons] at e
    cases hx : x == y with
    | true => rw [hx] at e; cases e; exact ⟨0, by rw [beq_iff_eq.mp hx]; rfl, rfl⟩
    | false =>
      rw [hx] at e
      obtain ⟨i, h1, h2⟩ := ih j e
      exact ⟨i + 1, h1, by lia⟩
structure Cb where
  c : Cf
  s : Shared
  sc : Scope
  xs : List Str
  cx' : Cx
  cl : List (Str × Addr)
  D : Nat
noncomputable abbrev Cb.I (k : Cb) : Nat := k.s.heap.objs.size
noncomputable abbrev Cb.own (k : Cb) : List (Str × Addr) := cellsFrom (k.D + 1 + 1) k.sc.names []
noncomputable def Cb.env (k : Cb) : Env :=
  { scope := relabel k.sc k.c.env, locals := k.D + 1, globals := k.c.env.globals, cells := k.own ++ k.cl, qual := k.c.env.qual, func := none, code := k.c.env.code, frame := k.c.env.frame, builtins := k.c.env.builtins }
noncomputable def Cb.nw (k : Cb) : AP := fun b => b = k.I ∨ b = k.D ∨ pls k.env k.own b
structure Cb.Ok (k : Cb) : Prop where
  W : Wf k.c
  A : At k.c k.s
  inn : k.c.cx.inner k.sc k.xs = some k.cx'
  hcl : ∀ x, (x, NameKind.free) ∈ k.sc.names → k.cl.lookup x = k.c.env.cells.lookup x
  hcl2 : ∀ x a, k.cl.lookup x = some a → k.c.env.cells.lookup x = some a
  lt : k.I < k.D
  ge : ∀ x a, k.own.lookup x = some a → k.D + 1 < a
noncomputable def Cb.at (k : Cb) (us : List V) (t : Shared) (E : Value → Shared → Prop) : Cf :=
  { k.c with cx := k.cx', env := k.env, hid := fun b => k.nw b ∨ k.c.hid b, ρ := k.c.ρ ++ us.map some, b := t, X := fun _ => False, E := E }
section
variable {k : Cb} {t : Shared} {us : List V} {vs : List Value} {E : Value → Shared → Prop} {v : Value} {u : V}
theorem Cb.Ok.pl (h : k.Ok) {b : Addr} (q : pls k.env k.own b) : k.D < b := by
  rcases q with rfl | ⟨x, q⟩
  · exact Nat.lt_succ_self _
  · exact Nat.lt_trans (Nat.lt_succ_self _) (h.ge x b q)
theorem Cb.Ok.new (h : k.Ok) {b : Addr} (q : k.nw b) : k.s.heap.get? b = none := by
  refine Heap.get?_none_of_le ?_
  rcases q with rfl | rfl | q
  · exact Nat.le_refl _
  · exact Nat.le_of_lt h.lt
  · exact Nat.le_of_lt (Nat.lt_trans h.lt (h.pl q))
theorem Cb.Ok.off (h : k.Ok) {b : Addr} {P : Prop} {o : Obj} (q : k.nw b) (e : k.s.heap.get? b = some o) : P := JE e (h.new q)
theorem Cb.Ok.nfr (h : k.Ok) {b : Addr} (q : k.nw b) : ¬ k.c.fr b := fun z => (h.A.dom b (h.W.sub b z)).not_none (h.new q)
noncomputable def Fix : V → Prop
  | .own _ => False
  | _ => True
theorem Cb.Ok.R (h : k.Ok) (x : Ext k.c.fr k.s.heap t.heap) (r : k.c.R k.s v u) (no : Fix u) : (k.at us t E).R t v u := by
  cases u with
  | d y => exact PR.move (fun b o n e => ⟨fun q => q.elim (fun q => h.off q e) n, (x b o e).1 fun q => n (h.W.sub b q)⟩) r
  | brw y => exact PR.move (XL x fun _ b => b) r
  | exc k => exact ExcAt.ext r x
  | rg n => obtain ⟨a, t1, t2, t3, e, n, l, r⟩ := r; exact ⟨a, t1, t2, t3, e, n, l, (x a _ r).1 n⟩
  | _ => exact no.elim
theorem nm_fix (u : V) : Fix (nmV u) := by
  cases u with
  | brw x => show Fix (low x); unfold low; cases flat x <;> trivial
  | _ => trivial
theorem Cb.Ok.names (h : k.Ok) : k.env.scope.names = relab k.c.cx.kd k.sc.names := by
  show (relabel k.sc k.c.env).names = _
  unfold relabel relab Env.kindOf
  simp only [h.W.envok.kind, h.W.envok.names]
  refine List.map_congr_left fun p _ => ?_
  obtain ⟨x, q⟩ := p
  simp
theorem Cb.Ok.own_none (h : k.Ok) {x : Str} (q : (x, NameKind.free) ∈ k.sc.names) : k.own.lookup x = none := by
  obtain ⟨_, nd, _⟩ := Jf h.inn
  cases z : k.own.lookup x with
  | none => rfl
  | some a =>
    have e1 := JH nd q
    rw [JH nd (QI _ _ _ _ (mem_of_lookup z))] at e1
    cases e1
theorem Cb.Ok.cells (h : k.Ok) {x : Str} (q : (x, NameKind.free) ∈ k.sc.names) : k.env.cells.lookup x = k.c.env.cells.lookup x := by
  show (k.own ++ k.cl).lookup x = _
  rw [Je, h.own_none q]; exact h.hcl x q
theorem WO {names : List (Str × NameKind)} (nd : (names.map (·.1)).Nodup) {x : Str} (q : (x, NameKind.cell) ∈ names) (n : Nat) : ∃ a, (cellsFrom n names []).lookup x = some a := by
  obtain ⟨a, ha⟩ := Jm names n x q
  refine ⟨a, JH ?_ ha⟩
  rw [Jg]
  exact (List.reverse_perm _).nodup_iff.mpr (List.Nodup.sublist (List.Sublist.map _ List.filter_sublist) nd)
theorem Cb.Ok.envok (h : k.Ok) : EnvOk k.c.G k.cx' k.env := by
  obtain ⟨i1, i2, i3, i4, fs, i5, i6⟩ := Jf h.inn
  obtain ⟨f1, f2⟩ := Qe fs i5
  have O := h.W.envok
  have kd : k.cx'.kd = relab k.c.cx.kd k.sc.names := by rw [i6]
  have look : ∀ y n, k.cx'.kd.lookup y = some n → ∃ m, k.sc.names.lookup y = some m ∧ cond (m == .free && k.c.cx.kd.lookup y == some .cell) .cell m = n := fun y n e => by
    rw [kd, QX] at e; exact Option.map_eq_some_iff.mp e
  refine ⟨i1, kd ▸ h.names, O.glob, O.bns, by rw [i6]; exact O.fns, by rw [i6]; exact O.cls, by rw [i6]; exact O.cst, fun y hy => ?_, fun y hy => ?_⟩
  · have : (y, NameKind.cell) ∈ k.sc.names ∨ (y, NameKind.free) ∈ k.sc.names := by
      rcases hy with e | e <;> obtain ⟨m, h1, h2⟩ := look y _ e <;> have h3 := mem_of_lookup h1 <;> cases m <;> first | exact .inl h3 | exact .inr h3 | exact nomatch h2
    rcases this with q | q
    · obtain ⟨a, ha⟩ := WO i2 q (k.D + 1 + 1)
      refine ⟨a, ?_⟩
      show (k.own ++ k.cl).lookup y = some a
      rw [Je, ha]; rfl
    · obtain ⟨a, ha⟩ := O.cells y (f2 y q)
      exact ⟨a, (h.cells q).trans ha⟩
  · obtain ⟨m, h1, h2⟩ := look y _ hy
    have hm : m = .free := by cases m <;> first | rfl | exact nomatch h2
    subst hm
    refine O.nocd y ((f2 y (mem_of_lookup h1)).resolve_left fun z => ?_)
    rw [z] at h2; exact nomatch h2
theorem Cb.Ok.bnd (h : k.Ok) {y : Str} (hy : y ∈ k.xs) : Bindable k.env k.own y := by
  obtain ⟨i1, i2, i3, i4, fs, i5, i6⟩ := Jf h.inn
  have e : k.env.kindOf y = (relab k.c.cx.kd k.sc.names).lookup y := by unfold Env.kindOf; rw [h.names]
  unfold Bindable
  rw [e, QX]
  rcases i4 y hy with q | q
  · rw [q]; exact .inl rfl
  · rw [q]; exact .inr ⟨rfl, WO i2 (mem_of_lookup q) _⟩
theorem Cb.Ok.wf (h : k.Ok) (l : us.length = k.xs.length) (x : Ext k.c.fr k.s.heap t.heap) (is : ∀ b, k.nw b → Is t.heap b) : Wf (k.at us t E) := by
  obtain ⟨_, _, _, _, fs, _, i6⟩ := Jf h.inn
  refine ⟨⟨h.W.ok, h.W.depth, h.W.units, fun b q => .inr (h.W.sub b q), fun b q => q.elim (is b) fun q => (h.A.dom b q).ext x, fun _ _ _ _ _ f => f.elim⟩, h.envok, ?_⟩
  show (k.c.ρ ++ us.map some).length = k.cx'.nx
  rw [List.length_append, List.length_map, h.W.len, l, i6]
theorem Rs.at {R : Value → V → Prop} {us : List V} : ∀ {vs : List Value}, Rs R vs us → ∀ {i : Nat} {u : V}, us[i]? = some u → ∃ v, vs[i]? = some v ∧ R v u := by
  induction us with
  | nil => intro vs r i u e; exact nomatch e
  | cons w us ih =>
    intro vs r i u e
    cases r with
    | cons a b => cases i with
      | zero => cases e; exact ⟨_, rfl, a⟩
      | succ i => exact ih b e
theorem Cb.Ok.go (h : k.Ok) (l : us.length = k.xs.length) (x : Ext k.c.fr k.s.heap t.heap) (is : ∀ b, k.nw b → Is t.heap b) (va : VarsAt k.env t.heap k.xs vs) (r : Rs (k.c.R k.s) vs us) (ku : ∀ w ∈ us, Pln w) : At (k.at us t E) t := by
  have W := h.wf (E := E) l x is
  obtain ⟨i1, i2, i3, i4, fs, i5, i6⟩ := Jf h.inn
  obtain ⟨f1, f2⟩ := Qe fs i5
  have a : AtC (k.at us t E) t := ⟨⟨h.A.stk.frames, (h.A.stk.ext x).funs, (h.A.stk.ext x).base⟩, h.A.hok.ext x, W.dom0, Ext.refl _ _, Same.refl _⟩
  refine ⟨a, fun y i hy u hu => ?_, fun y b e => ?_⟩
  · rw [show (k.at us t E).cx = k.cx' from rfl, i6] at hy
    replace hy : (k.xs.zip (List.range' k.c.cx.nx k.xs.length) ++ fs).lookup y = some i := hy
    rw [Je] at hy
    replace hu : (k.c.ρ ++ us.map some)[i]? = some (some u) := hu
    cases q : (k.xs.zip (List.range' k.c.cx.nx k.xs.length)).lookup y with
    | some j =>
      rw [q] at hy; cases hy
      obtain ⟨m, h1, rfl⟩ := GT _ q
      rw [List.getElem?_append_right (by rw [h.W.len]; exact Nat.le_add_right _ _), h.W.len, Nat.add_sub_cancel_left, List.getElem?_map] at hu
      obtain ⟨w, e1, e2⟩ := Option.map_eq_some_iff.mp hu
      cases e2
      obtain ⟨v, e3, r3⟩ := r.at e1
      refine ⟨v, va m y v h1 e3, ?_⟩
      rcases ku u (List.mem_of_getElem? e1) with ⟨z, rfl⟩ | ⟨z, rfl⟩
      · exact h.R x r3 trivial
      · exact Wu a (PR.move (XL x fun _ b => b) r3)
    | none =>
      rw [q] at hy
      obtain ⟨g1, g2, g3⟩ := f1 y i hy
      rw [List.getElem?_append_left (by rw [h.W.len]; exact g2)] at hu
      obtain ⟨v, va, r3⟩ := h.A.envr y i g1 u hu
      refine ⟨v, ?_, h.R x r3 (nm_fix u)⟩
      have hk := f2 y g3
      rcases va with ⟨z, _⟩ | ⟨z, b, hb, hv⟩
      · unfold Env.kindOf at z
        rw [h.W.envok.names] at z
        rcases hk with q | q <;> rw [z] at q <;> cases q
      · refine .inr ⟨?_, b, (h.cells g3).trans hb, x.cell hv⟩
        show k.env.scope.names.lookup y = some .cell ∨ k.env.scope.names.lookup y = some .free
        rw [h.names, QX, JH i2 g3]
        cases k.c.cx.kd.lookup y == some .cell with
        | true => exact .inl rfl
        | false => exact .inr rfl
  · replace e : (k.own ++ k.cl).lookup y = some b := e
    rw [Je] at e
    cases q : k.own.lookup y with
    | some b' => rw [q] at e; cases e; obtain ⟨o, e, _⟩ := is b (.inr (.inr (.inr ⟨y, q⟩))); exact ⟨o, e⟩
    | none =>
      rw [q] at e
      obtain ⟨o, z⟩ := h.A.cok y b (h.hcl2 y b e)
      obtain ⟨_, z'⟩ := (x b o z).2
      exact ⟨_, z'⟩
end
end TC

namespace TC
open PySem PySem.W PyProof.Rows

section
variable {k : Cb} {t : Shared} {u : V} {v : Value}
theorem Hi (hu : Pln u) (n : Nat) : All (partsV u n) fun us => ∀ w ∈ us, Pln w := by
  rcases hu with ⟨x, rfl⟩ | ⟨x, rfl⟩
  · cases x with
    | tuple xs => exact fun us e w hw => by obtain ⟨_, rfl⟩ := JX e; obtain ⟨y, _, rfl⟩ := List.mem_map.mp hw; exact .inl ⟨y, rfl⟩
    | _ => exact .no
  · cases x with
    | tuple xs => exact fun us e w hw => by obtain ⟨_, rfl⟩ := JX e; obtain ⟨y, _, rfl⟩ := List.mem_map.mp hw; exact UQ y
    | _ => exact .no
theorem Cb.Ok.unp (h : k.Ok) {ps : List Pos} {i : Nat} {p : Pos} (l1 : k.xs.length = ps.length) (fm : Fm k.env k.own t.heap) (hok : HOk k.c.hm k.c.A t.heap) {a : Addr} {items : Array Value} {m : Nat} (ho : t.heap.get? a = some (tupObj items m)) (q2 : items.size = k.xs.length) {E : Value → Shared → Prop} {Q : Unit → Shared → Prop}
    (q : ∀ h' tk, Fm k.env k.own h' → (∀ b o, ¬ pls k.env k.own b → t.heap.get? b = some o → h'.get? b = some o) → VarsAt k.env h' k.xs items.toList → Q () { t with heap := h', toks := tk }) :
    wpAny k.c.M k.c.A (assign (.Tuple ((k.xs.zip ps).map fun q => .Name q.1 q.2) i p) k.env (.ref a)) Q E t := by
  obtain ⟨i1, i2, i3, i4, _⟩ := Jf h.inn
  rw [arm_assign_Tuple, XN]
  refine wpAny_bind (wpAny_standAt (UF (hm := k.c.hm) hok ho (by rw [List.length_map, List.length_zip, ← l1, Nat.min_self, q2]) (ZGc _ _) fun h1 k1 => ?_))
  rw [List.map_map]
  have f1 : Fm k.env k.own h1 := fm.on fun b o _ e => k1 b o e
  exact Wd (s := { t with heap := h1 }) (vs := items.toList) (by rw [Array.length_toList, q2]) l1 i3 f1 (fun y hy => h.bnd hy) fun h2 tk F2 k2 a2 o2 => q h2 tk F2 (fun b o hb e => k2 b o hb (k1 b o e)) a2
theorem Cb.Ok.bind (h : k.Ok) {tg : Expr} {topt : Option Nat} (ht : tgtNames (view tg) = some (topt, k.xs)) (fm : Fm k.env k.own t.heap) (x : Ext k.c.fr k.s.heap t.heap) (r : k.c.R k.s v u) (hu : Pln u) {kk : Rho → Prop} (w : bindT topt u k.c.ρ kk) {E : Value → Shared → Prop} {Q : Unit → Shared → Prop}
    (q : ∀ h' tk vs us, Fm k.env k.own h' → (∀ b o, ¬ pls k.env k.own b → t.heap.get? b = some o → h'.get? b = some o) → VarsAt k.env h' k.xs vs → Rs (k.c.R k.s) vs us → us.length = k.xs.length → (∀ w ∈ us, Pln w) → kk (k.c.ρ ++ us.map some) → Q () { t with heap := h', toks := tk }) :
    wpAny k.c.M k.c.A (assign tg k.env v) Q E t := by
  obtain ⟨i1, i2, i3, i4, _⟩ := Jf h.inn
  have ve := JU tg
  revert ht ve
  cases view tg with
  | name y p =>
    intro ht ve
    replace ve : Expr.Name y p = tg := ve
    subst ve
    injection ht with ht
    injection ht with h1 h2
    subst h1
    refine wpAny_bind (wpAny_standAt (wpAny_bindName (VP fm (h.bnd (h2 ▸ .head _)) fun h1 tk F1 k1 a1 o1 => ?_)))
    refine q h1 tk [v] [u] F1 k1 (fun i y w e1 e2 => ?_) (.cons r .nil) (by rw [← h2]; rfl) (fun w hw => by rw [List.mem_singleton.mp hw]; exact hu) w
    rw [← h2] at e1
    cases i with
    | zero => cases e1; cases e2; exact a1
    | succ i => exact nomatch e1
  | tuple es i p =>
    intro ht ve
    replace ve : Expr.Tuple es i p = tg := ve
    subst ve
    obtain ⟨l, h1, h2⟩ := Option.map_eq_some_iff.mp ht
    injection h2 with h2 h3
    subst h2
    subst h3
    obtain ⟨ps, l1, rfl⟩ := WI _ h1
    refine Zx w fun us e w => ?_
    obtain ⟨a, items, m, rfl, ho, nf, q1⟩ := VN h.W.toWfC h.A.toAtC r _ us e
    have q2 : us.length = k.xs.length := QW us e
    have q3 := q1.length
    exact h.unp l1 fm (h.A.hok.ext x) ((x a _ ho).1 nf) (by rw [← q2, ← q3, Array.length_toList]) fun h' tk F k' va => q h' tk items.toList us F k' va q1 q2 (Hi hu _ us e) w
  | _ => intro ht; exact nomatch ht
end
noncomputable def New (b : Bool) (h : Heap) (v : Value) : Prop := b = true → ∀ a, v = .ref a → h.get? a = none
noncomputable def OkN (b : Bool) (c : Cf) (pe : Expr) (e : TC.E) : Prop := ∀ s K Q, At c s → wpE (wpCall c.G.tab c.dep) c.hm c.X e c.ρ K → (∀ v s' u, At c s' → Ext c.fr s.heap s'.heap → c.R s' v u → New b s.heap v → K u → Q v s') → c.wp (eval pe c.env) Q s
theorem OkE.n {c : Cf} {pe : Expr} {e : TC.E} (h : OkE c pe e) : OkN false c pe e := fun s K Q a w k => h s K Q a w fun v s' u a' x r hk => k v s' u a' x r nofun hk
theorem ZHj {b : Bool} {c : Cf} {ifs : List Expr} {elt : Expr} {cs : Es} {e : TC.E} {s : Shared} (W : Wf c) (hz : ifs.length ≤ 1) (h1 : OkL c ifs cs) (h2 : OkN b c elt e) (a : At c s) {kk : Option PyData → Prop}
    (w : tstW (wpL (Φ c) c.hm c.X cs c.ρ) (wpE (Φ c) c.hm c.X e c.ρ fun v => got (kp v) fun y => kk (some y)) (kk none)) {P : Value → Shared → Prop} {Z : Shared → Prop}
    (q1 : ∀ v s' y, At c s' → Ext c.fr s.heap s'.heap → PR c.hid s'.heap v y → New b s.heap v → kk (some y) → P v s') (q2 : ∀ s', At c s' → Ext c.fr s.heap s'.heap → kk none → Z s') :
    c.wp (forIn ifs true fun x r => if r = true then do let ok ← isTrue x c.env (eval x c.env); pure (ForInStep.yield ok) else pure (ForInStep.yield r)) (fun ok s₃ => if ok = true then c.wp (eval elt c.env) P s₃ else Z s₃) s := by
  have el : ∀ s₃, At c s₃ → Ext c.fr s.heap s₃.heap → wpE (Φ c) c.hm c.X e c.ρ (fun v => got (kp v) fun y => kk (some y)) → c.wp (eval elt c.env) P s₃ := fun s₃ a₃ x₃ w => h2 s₃ _ _ a₃ w fun v s' u a' x' r nw w => Zx w fun y e w => q1 v s' y a' (x₃.trans x') (W.keep a'.toAtC r y e) (fun hb a e => x₃.gone (nw hb a e)) w
  rcases ifs with _ | ⟨i, _ | ⟨j, ifs⟩⟩
  · cases cs with
    | nil => rw [List.forIn_nil]; exact wpAny_pure (el s a (Ext.refl _ _) w)
    | cons => exact h1.elim
  · rcases cs with _ | ⟨c1, _ | ⟨c2, cs⟩⟩
    · exact h1.elim
    · refine wpAny_tests_one (h1.1.ts s _ _ a w (fun u => Qm) fun b s' a' x' w' => ?_)
      cases b with
      | false => exact q2 s' a' x' w'
      | true => exact el s' a' x' w'
    · exact h1.2.elim
  · exact absurd hz (by simp)
theorem Ext.on {fr : AP} {h h' h'' : Heap} {P : AP} (x : Ext fr h h') (k : ∀ b o, ¬ P b → h'.get? b = some o → h''.get? b = some o) (p : ∀ b, P b → h.get? b = none) : Ext fr h h'' := fun b o e => by
  have n : ¬ P b := fun q => JE e (p b q)
  obtain ⟨x1, sl, x2⟩ := x b o e
  exact ⟨fun hb => k b o n (x1 hb), sl, k b _ n x2⟩

structure Cb.Lp (k : Cb) (P : AP) (ys : List PyData) (t : Shared) : Prop where
  x : Ext k.c.fr k.s.heap t.heap
  m : Same k.s t
  acc : IsL P t.heap (.ref k.D) ys
  fm : Fm k.env k.own t.heap
noncomputable abbrev Cb.hd (k : Cb) : AP := fun b => k.nw b ∨ k.c.hid b
structure Cb.Tx (k : Cb) (b : Bool) (tg : Expr) (topt : Option Nat) (ifs : List Expr) (elt : Expr) (cs : Es) (e : TC.E) : Prop where
  tg : tgtNames (view tg) = some (topt, k.xs)
  hz : ifs.length ≤ 1
  ok : ∀ us t E, Wf (k.at us t E) → OkL (k.at us t E) ifs cs ∧ OkN b (k.at us t E) elt e
noncomputable abbrev Cb.step (k : Cb) (cs : Es) (e : TC.E) (ρ : Rho) (kk : Option PyData → Prop) : Prop := tstW (wpL (Φ k.c) k.c.hm (fun _ => False) cs ρ) (wpE (Φ k.c) k.c.hm (fun _ => False) e ρ fun v => got (kp v) fun y => kk (some y)) (kk none)
section
variable {k : Cb} {tg iter elt : Expr} {topt : Option Nat} {ifs : List Expr} {cs : Es} {e : TC.E} {K : V → Prop} {us : List V} {v₀ : Value} {h' : Heap} {R : Result → Shared → Prop} {pos : Pos} {P : AP}
theorem Cb.Ok.plN (h : k.Ok) {b : Nat} (hb : b ≤ k.D) : ¬ pls k.env k.own b := fun q => absurd (h.pl q) (Nat.not_lt.mpr hb)
theorem Cb.Ok.free (h : k.Ok) {b : Nat} (hb : k.I ≤ b) : ¬ k.c.fr b := fun z => (h.A.dom b (h.W.sub b z)).not_none (Heap.get?_none_of_le hb)
theorem Cb.Ok.turn {b : Bool} (h : k.Ok) (X : k.Tx b tg topt ifs elt cs e) (sP : ∀ b, k.hd b → P b) {t : Shared} {ys : List PyData} (L : k.Lp P ys t) (is : ∀ b, k.nw b → Is t.heap b) {vs : List Value} {us : List V} (va : VarsAt k.env t.heap k.xs vs) (r : Rs (k.c.R k.s) vs us) (l : us.length = k.xs.length) (p : ∀ w ∈ us, Pln w) (ly : ys.length < lim)
    {kk : Option PyData → Prop} (hP : ∀ h v y, New b t.heap v → kk (some y) → PR k.hd h v y → PR P h v y) (w : k.step cs e (k.c.ρ ++ us.map some) kk) {E : Value → Shared → Prop} {Z : Shared → Prop}
    (again : ∀ s' r, k.Lp P (r.elim ys fun y => ys ++ [y]) s' → (∀ b o, b < k.D → ¬ k.c.fr b → t.heap.get? b = some o → s'.heap.get? b = some o) → kk r → Z s') :
    wpAny k.c.M k.c.A (forIn ifs true fun x r => if r = true then do let ok ← isTrue x k.env (eval x k.env); pure (ForInStep.yield ok) else pure (ForInStep.yield r)) (fun ok s₃ => if ok = true then wpAny k.c.M k.c.A (eval elt k.env) (fun x s₄ => wpAny k.c.M k.c.A (call (.builtin "list.append") [.ref k.D, x]) (fun _ s₅ => Z s₅) E s₄) E s₃ else Z s₃) E t := by
  have a7 := h.go (E := E) l L.x is va r p
  have W7 := h.wf (E := E) l L.x is
  obtain ⟨D, ws, nn, eD, hD, rD⟩ := L.acc
  cases eD
  have Dfr : ¬ k.c.fr k.D := h.nfr (.inr (.inl rfl))
  have sfr : ∀ b, k.c.fr b → P b := fun b q => sP b (.inr (h.W.sub b q))
  refine ZHj (kk := kk) W7 X.hz (X.ok _ _ _ W7).1 (X.ok _ _ _ W7).2 a7 w (fun v7 s7 y a8 x7 r7 nw7 w7 => ?_) fun s7 a8 x7 w7 => ?_
  · have r7' : PRs P s7.heap ws.toList ys := rD.move (XL x7 sfr)
    refine Va ((x7 _ _ hD).1 Dfr) ?_ fun h8 n8 hd8 k8 => ?_
    · rw [r7'.size]; exact Jt ly (by rw [sizeLine_eq]; decide)
    · have kk : Mv P P s7.heap h8 := fun b o n e => ⟨n, k8 b o (fun q => n (sP b (.inl (.inr (.inl q))))) e⟩
      refine again { s7 with heap := h8 } (some y) ⟨(L.x.trans x7).on (P := (· = k.D)) k8 fun b q => h.new (.inr (.inl q)), L.m.trans ⟨a8.same.1, a8.same.2⟩, ⟨_, _, n8, rfl, hd8, ?_⟩, (L.fm.ext x7).on fun b o hb e => k8 b o (fun q => h.plN (Nat.le_refl _) (q ▸ hb)) e⟩ (fun b o lt nf e => k8 b o (Nat.ne_of_lt lt) ((x7 b o e).1 nf)) w7
      rw [Array.toList_push]
      exact PRs.append (.cons ((hP _ _ _ nw7 w7 r7).move kk) .nil) (r7'.move kk)
  · exact again s7 none ⟨L.x.trans x7, L.m.trans ⟨a8.same.1, a8.same.2⟩, ⟨_, _, nn, rfl, (x7 _ _ hD).1 Dfr, rD.move (XL x7 sfr)⟩, L.fm.ext x7⟩ (fun b o lt nf e => (x7 b o e).1 nf) w7
theorem Cb.Ok.loop (h : k.Ok) (X : k.Tx false tg topt ifs elt cs e) (sr : Src k.c k.s v₀ h' us) (lu : us.length < lim) (w : compW (k.step cs e) topt k.c.ρ K us []) {t : Shared} (kt : Keep h' t.heap) (hk : ∀ b, b < h'.objs.size → b < k.D) (L : k.Lp k.hd [] t)
    (fin : ∀ t ys, k.Lp k.hd ys t → K (.own (.list ys)) → R (.ok .next) t) : codeAny k.c.M k.c.A (.compLoop (.ListComp elt [⟨tg, iter, ifs, 0⟩] k.sc pos) 0 (.ref k.I) (.ref k.D) k.env) R t := by
  obtain ⟨It, src, ⟨fp, St, Wk, st0, hfp, hIt⟩, hsrc, hR, hP⟩ := sr
  have fpD : ∀ b ∈ fp, b < k.D := fun b hb => hk b (hfp b hb).1
  have fpfr : ∀ b ∈ fp, ¬ k.c.fr b := fun b hb => by
    rcases (hfp b hb).2 with rfl | q | q
    · exact h.nfr (.inl rfl)
    · obtain ⟨o, vs, e1, e2⟩ := h.A.hok.rec b q
      exact fun z => let ⟨_, o', e3, e4⟩ := h.A.stk.funs.mem z; absurd e2 (by rw [e1] at e3; cases e3; exact e4 vs)
    · exact (hsrc b q).2.1
  let Inv : Nat → Shared → Prop := fun j t => ∃ i ys, i + j = us.length ∧ St i t.heap ∧ k.Lp k.hd ys t ∧ ys.length ≤ i ∧ compW (k.step cs e) topt k.c.ρ K (us.drop i) ys
  refine Xs Inv (fun j t inv => ?_) us.length ⟨0, [], Nat.zero_add _, Wk.frame 0 h' t.heap st0 fun b hb o e => kt b o e, L, Nat.le_refl _, w⟩
  obtain ⟨i, ys, e1, st, L, l1, w1⟩ := inv
  have offI : ∀ b, b ∈ [k.I] → k.s.heap.get? b = none := fun b q => h.new (.inl (List.mem_singleton.mp q))
  have go : ∀ h5 tk, (∀ b o, b ∉ [k.I] → t.heap.get? b = some o → h5.get? b = some o) → k.Lp k.hd ys { t with heap := h5, toks := tk } := fun h5 tk k5 => by
    have k5' : ∀ b o, b ≠ k.I → t.heap.get? b = some o → h5.get? b = some o := fun b o n e => k5 b o (fun q => n (List.mem_singleton.mp q)) e
    obtain ⟨D, ws, nn, eD, hD, rD⟩ := L.acc
    cases eD
    exact ⟨L.x.on (P := (· ∈ [k.I])) k5 offI, L.m.trans ⟨rfl, rfl⟩, ⟨_, ws, nn, rfl, k5' _ _ (Nat.ne_of_gt h.lt) hD, rD.move fun b o n e => ⟨n, k5' b o (fun q => n (.inl (.inl q))) e⟩⟩, L.fm.on fun b o hb e => k5' b o (fun q => h.plN (Nat.le_of_lt h.lt) (q ▸ hb)) e⟩
  by_cases lt : i < us.length
  · refine Wk.item i t _ _ lt st fun v h5 tk p st5 k5 => ?_
    rw [List.drop_eq_getElem_cons lt] at w1
    have L5 := go h5 tk k5
    obtain ⟨oI, nm, q1, q2, q3, q4⟩ := hIt (i + 1) h5 st5
    refine Xb (s := { t with heap := h5, toks := tk }) q1 q2 q3 ?_
    refine h.bind (t := { t with heap := h5, toks := tk }) X.tg L5.fm L5.x (hR i v _ p (List.getElem?_eq_getElem lt)) (hP _ (List.getElem_mem lt)) w1 fun h6 tk6 vs us' F6 k6 a6 r6 l6 p6 w2 => ?_
    obtain ⟨D, ws, nn, eD, hD, rD⟩ := L5.acc
    cases eD
    have hD6 : h6.get? k.D = some (listObj ws nn) := k6 k.D _ (h.plN (Nat.le_refl _)) hD
    have is6 : ∀ b, k.nw b → Is h6 b := fun b q => by
      rcases q with rfl | rfl | q
      · exact ⟨oI, k6 _ _ (h.plN (Nat.le_of_lt h.lt)) q1, q4⟩
      · exact ⟨_, hD6, .list _ _⟩
      · exact F6.is q
    refine h.turn X (fun _ q => q) (t := { t with heap := h6, toks := tk6 }) (ys := ys) ⟨L5.x.on (P := pls k.env k.own) k6 fun b q => h.new (.inr (.inr q)), L.m.trans ⟨rfl, rfl⟩, ⟨_, _, nn, rfl, hD6, rD.move fun b o n e => ⟨n, k6 b o (fun q => n (.inl (.inr (.inr q)))) e⟩⟩, F6⟩ is6 a6 r6 l6 p6 (Nat.lt_of_le_of_lt l1 (Nat.lt_trans lt lu)) (fun _ _ _ _ _ q => q) w2 fun s' r L' kf w' => ?_
    exact ⟨j - 1, by lia, i + 1, _, by lia, Wk.frame (i + 1) h5 _ st5 fun b hb o e => kf b o (fpD b hb) (fpfr b hb) (k6 b o (h.plN (Nat.le_of_lt (fpD b hb))) e), L', by cases r with | none => exact Nat.le_succ_of_le l1 | some y => show (ys ++ [y]).length ≤ i + 1; rw [List.length_append]; exact Nat.succ_le_succ l1, w'⟩
  · have ei : i = us.length := by lia
    refine Wk.done t _ _ (ei ▸ st) fun h5 tk k5 => ?_
    rw [List.drop_eq_nil_of_le (by lia)] at w1
    exact fin { t with heap := h5, toks := tk } ys (go h5 tk k5) w1.2

structure ZSt (I l1 l2 : Nat) (xs ys : Array Value) (i : Nat) (h : Heap) : Prop where
  z : IsZip h (I + 4) (I + 2) (I + 3) .none
  ti : IsPair h (I + 2) (.ref I) (.ref (I + 1))
  to : ∃ a b, IsPair h (I + 3) a b
  i1 : h.IsListIter I l1 i
  i2 : h.IsListIter (I + 1) l2 i
  h1 : h.IsList l1 xs
  h2 : h.IsList l2 ys
theorem ZSt.move {I l1 l2 : Nat} {xs ys : Array Value} {i : Nat} {h h' : Heap} (st : ZSt I l1 l2 xs ys i h) (k : ∀ (b : Nat) o, (I ≤ b ∧ b ≤ I + 4) ∨ b = l1 ∨ b = l2 → h.get? b = some o → h'.get? b = some o) : ZSt I l1 l2 xs ys i h' := by
  obtain ⟨z, ti, ⟨a, b, to⟩, ⟨o1, g1, i1⟩, ⟨o2, g2, i2⟩, ⟨p1, j1, h1⟩, ⟨p2, j2, h2⟩⟩ := st
  exact ⟨k _ _ (.inl (by lia)) z, k _ _ (.inl (by lia)) ti, ⟨a, b, k _ _ (.inl (by lia)) to⟩, ⟨o1, k _ _ (.inl (by lia)) g1, i1⟩, ⟨o2, k _ _ (.inl (by lia)) g2, i2⟩, ⟨p1, k _ _ (.inr (.inl rfl)) j1, h1⟩, ⟨p2, k _ _ (.inr (.inr rfl)) j2, h2⟩⟩
theorem ZEy {P P' : AP} {h : Heap} {v : Value} {y : PyData} (e : atom y = true) (r : PR P h v y) : PR P' h v y := by
  cases r with
  | non => exact .non
  | bool b => exact .bool b
  | int i t => exact .int i t
  | str x t => exact .str x t
  | _ => exact nomatch e
inductive ZL (c : Cf) (s : Shared) (v : Value) (us : List V) : Prop
  | mk (l : Addr) (xs : Array Value) (m : Nat) : v = .ref l → s.heap.get? l = some (listObj xs m) → ¬ c.fr l → Rs (c.R s) xs.toList us → (∀ u ∈ us, Pln u) → ZL c s v us
noncomputable abbrev Cb.zh (k : Cb) : AP := fun b => (k.I ≤ b ∧ b ≤ k.I + 4) ∨ k.hd b
noncomputable def tupA : PyData → Bool
  | .tuple ys => ys.all atom
  | _ => false
theorem Vc {P P' : AP} {h : Heap} : ∀ {ys : List PyData} {vs : List Value}, ys.all atom = true → PRs P h vs ys → PRs P' h vs ys
  | [], vs, _, r => by rw [show vs = [] from r.inv]; exact .nil
  | y :: ys, vs, e, r => by
    obtain ⟨v, ws, rfl, a, b⟩ := r.inv
    rw [List.all_cons, Bool.and_eq_true] at e
    exact .cons (ZEy e.1 a) (Vc e.2 b)
noncomputable abbrev Cb.zstep (k : Cb) (cs es : Es) (ρ : Rho) (kk : Option PyData → Prop) : Prop := tstW (wpL (Φ k.c) k.c.hm (fun _ => False) cs ρ) (seqW (wpL (Φ k.c) k.c.hm (fun _ => False) es ρ) fun vs => got (keepAll vs) fun ys => ys.all atom = true ∧ kk (some (.tuple ys))) (kk none)
theorem Cb.Ok.zloop {es : Es} (h : k.Ok) (X : k.Tx true tg (some 2) ifs elt cs (.tup es)) (hh : k.c.A.handled = none) {l1 l2 : Nat} {A1 A2 : Array Value} {m1 m2 : Nat} {us1 us2 : List V} (o1 : k.s.heap.get? l1 = some (listObj A1 m1)) (o2 : k.s.heap.get? l2 = some (listObj A2 m2)) (f1 : ¬ k.c.fr l1) (f2 : ¬ k.c.fr l2) (r1 : Rs (k.c.R k.s) A1.toList us1) (r2 : Rs (k.c.R k.s) A2.toList us2) (p1 : ∀ u ∈ us1, Pln u) (p2 : ∀ u ∈ us2, Pln u)
    (lu : us1.length < lim) (w : zcompW (k.zstep cs es) k.c.ρ K (us1.zip us2) []) {t : Shared} (st : ZSt k.I l1 l2 A1 A2 0 t.heap) (hk : k.I + 4 < k.D) (L : k.Lp k.zh [] t)
    (fin : ∀ t ys, k.Lp k.zh ys t → K (.own (.list ys)) → R (.ok .next) t) : codeAny k.c.M k.c.A (.compLoop (.ListComp elt [⟨tg, iter, ifs, 0⟩] k.sc pos) 0 (.ref (k.I + 4)) (.ref k.D) k.env) R t := by
  have b1 : l1 < k.I := Heap.lt_size o1
  have b2 : l2 < k.I := Heap.lt_size o2
  have D : ZipApart (k.I + 4) (k.I + 2) (k.I + 3) k.I (k.I + 1) l1 l2 := by constructor <;> (show (_ : Nat) ≠ _; lia)
  have len : (us1.zip us2).length ≤ us1.length := by rw [List.length_zip]; exact Nat.min_le_left _ _
  let Inv : Nat → Shared → Prop := fun j t => ∃ i ys, i + j = (us1.zip us2).length ∧ ZSt k.I l1 l2 A1 A2 i t.heap ∧ k.Lp k.zh ys t ∧ ys.length ≤ i ∧ zcompW (k.zstep cs es) k.c.ρ K ((us1.zip us2).drop i) ys
  refine Xs Inv (fun j t inv => ?_) (us1.zip us2).length ⟨0, [], Nat.zero_add _, st, L, Nat.le_refl _, w⟩
  obtain ⟨i, ys, e1, st, L, ly, w1⟩ := inv
  obtain ⟨a0, b0, to⟩ := st.to
  have go : ∀ h5 tk, (∀ (b : Nat) o, ¬ (k.I ≤ b ∧ b ≤ k.I + 4) → t.heap.get? b = some o → h5.get? b = some o) → k.Lp k.zh ys { t with heap := h5, toks := tk } := fun h5 tk k5 => by
    obtain ⟨D, ws, nn, eD, hD, rD⟩ := L.acc
    cases eD
    exact ⟨L.x.on (P := fun b : Nat => k.I ≤ b ∧ b ≤ k.I + 4) k5 fun b q => Heap.get?_none_of_le q.1, L.m.trans ⟨rfl, rfl⟩, ⟨_, ws, nn, rfl, k5 _ _ (by lia) hD, rD.move fun b o n e => ⟨n, k5 b o (fun q => n (.inl q)) e⟩⟩, L.fm.on fun b o hb e => k5 b o (fun q => h.plN (by lia) hb) e⟩
  by_cases lt : i < (us1.zip us2).length
  · have lt1 : i < us1.length := Nat.lt_of_lt_of_le lt len
    have lt2 : i < us2.length := by rw [List.length_zip] at lt; exact Nat.lt_of_lt_of_le lt (Nat.min_le_right _ _)
    obtain ⟨x, hx, rx⟩ := r1.at (List.getElem?_eq_getElem lt1)
    obtain ⟨y, hy, ry⟩ := r2.at (List.getElem?_eq_getElem lt2)
    rw [Array.getElem?_toList] at hx hy
    refine wpAny_pyNext_zip_item D st.z st.ti to st.i1 st.i2 st.h1 st.h2 hx hy fun h5 z5 to5 i15 i25 hT5 hz5 k5 => ?_
    rw [List.drop_eq_getElem_cons lt] at w1
    replace k5 : ∀ (b : Nat) o, b ≠ k.I + 4 → b ≠ k.I + 3 → b ≠ k.I → b ≠ k.I + 1 → t.heap.get? b = some o → h5.get? b = some o := k5
    have vt := JU tg
    have ht := X.tg
    revert ht vt
    cases view tg with
    | tuple es n p =>
      intro vt ht
      replace vt : Expr.Tuple es n p = tg := vt
      subst vt
      obtain ⟨l, q1, q2⟩ := Option.map_eq_some_iff.mp ht
      injection q2 with q2 q3
      subst q3
      obtain ⟨ps, lp, rfl⟩ := WI _ q1
      have xl : k.xs.length = 2 := Option.some.inj q2
      refine wpAny_letOwnedTupleGo_zip (s := { t with heap := h5 }) z5 fun h6 z6 sb => ?_
      have k6 : ∀ (b : Nat) o, b ≠ k.I + 4 → h5.get? b = some o → h6.get? b = some o := fun b o n e => (sb.2 b n).trans e
      have k56 : ∀ (b : Nat) o, b ≠ k.I + 4 → b ≠ k.I + 3 → b ≠ k.I → b ≠ k.I + 1 → t.heap.get? b = some o → h6.get? b = some o := fun b o n1 n2 n3 n4 e => k6 b o n1 (k5 b o n1 n2 n3 n4 e)
      have Tn : k.I + 4 < t.heap.objs.size := Heap.lt_size st.z
      have hT6 : h6.get? t.heap.objs.size = some (tupObj #[x, y] 0) := k6 _ _ (Nat.ne_of_gt Tn) hT5
      have L6 := go h6 t.toks fun b o n e => k56 b o (fun q => n (by lia)) (fun q => n (by lia)) (fun q => n (by lia)) (fun q => n (by lia)) e
      have st6 : ZSt k.I l1 l2 A1 A2 (i + 1) h6 := by
        obtain ⟨o1, g1, i1⟩ := i15
        obtain ⟨o2, g2, i2⟩ := i25
        obtain ⟨p1, j1, h1⟩ := st.h1
        obtain ⟨p2, j2, h2⟩ := st.h2
        exact ⟨z6, k56 _ _ (by lia) (by lia) (by lia) (by lia) st.ti, ⟨x, y, k6 _ _ (by lia) to5⟩, ⟨o1, k6 _ _ (by lia) g1, i1⟩, ⟨o2, k6 _ _ (by lia) g2, i2⟩, ⟨p1, k56 _ _ (by lia) (by lia) (by lia) (by lia) j1, h1⟩, ⟨p2, k56 _ _ (by lia) (by lia) (by lia) (by lia) j2, h2⟩⟩
      refine h.unp (t := { t with heap := h6 }) lp L6.fm (h.A.hok.ext L6.x) hT6 xl.symm fun h7 tk7 F7 k7 va7 => ?_
      obtain ⟨D, ws, nn, eD, hD, rD⟩ := L6.acc
      cases eD
      have hD7 : h7.get? k.D = some (listObj ws nn) := k7 k.D _ (h.plN (Nat.le_refl _)) hD
      have is7 : ∀ b, k.nw b → Is h7 b := fun b q => by
        rcases q with rfl | rfl | q
        · obtain ⟨o, g, c, _⟩ := st6.i1
          exact ⟨o, k7 _ _ (h.plN (Nat.le_of_lt h.lt)) g, fun z => by rw [c] at z; exact absurd (Value.type.inj z) (by decide)⟩
        · exact ⟨_, hD7, .list _ _⟩
        · exact F7.is q
      rw [List.getElem_zip] at w1
      refine h.turn X (kk := fun r => r.elim (zcompW (k.zstep cs es) k.c.ρ K (List.drop (i + 1) (us1.zip us2)) ys) fun y => tupA y = true ∧ zcompW (k.zstep cs es) k.c.ρ K (List.drop (i + 1) (us1.zip us2)) (ys ++ [y])) (fun _ q => .inr q) (t := { t with heap := h7, toks := tk7 }) (ys := ys) (us := [us1[i], us2[i]]) ⟨L6.x.on (P := pls k.env k.own) k7 fun b q => h.new (.inr (.inr q)), L.m.trans ⟨rfl, rfl⟩, ⟨_, _, nn, rfl, hD7, rD.move fun b o n e => ⟨n, k7 b o (fun q => n (.inr (.inl (.inr (.inr q))))) e⟩⟩, F7⟩ is7 va7 (.cons rx (.cons ry .nil)) xl.symm (fun w hw => ?_) (by lia) (fun h' v' y' nw q r => ?_) w1 fun s' r L' kf w' => ?_
      · rcases List.mem_cons.mp hw with rfl | hw
        · exact p1 _ (List.getElem_mem _)
        · rw [List.mem_singleton.mp hw]; exact p2 _ (List.getElem_mem _)
      · cases y' with
        | tuple zs =>
          obtain ⟨a, ws', m', rfl, na, ga, ra⟩ := r.inv
          refine .tuple (fun z => z.elim (fun z => ?_) na) ga (Vc q.1 ra)
          have n1 : h7.get? a = none := nw rfl a rfl
          have st7 := st6.move fun b o q e => k7 b o (h.plN (show b ≤ k.D by rcases q with q | q | q <;> lia)) e
          obtain ⟨z7, ti7, ⟨_, _, to7⟩, ⟨_, i17, _⟩, ⟨_, i27, _⟩, _, _⟩ := st7
          have key : ∀ b : Nat, k.I ≤ b → b ≤ k.I + 4 → b = k.I ∨ b = k.I + 1 ∨ b = k.I + 2 ∨ b = k.I + 3 ∨ b = k.I + 4 := fun b h1 h2 => by lia
          rcases key a z.1 z.2 with rfl | rfl | rfl | rfl | rfl
          · exact JE i17 n1
          · exact JE i27 n1
          · exact JE ti7 n1
          · exact JE to7 n1
          · exact JE z7 n1
        | _ => exact nomatch q.1
      · refine ⟨j - 1, by lia, i + 1, _, by lia, st6.move fun b o q e => ?_, L', ?_, ?_⟩
        · have lb : b < k.D := by rcases q with q | q | q <;> lia
          refine kf b o lb ?_ (k7 b o (h.plN (Nat.le_of_lt lb)) e)
          rcases q with q | rfl | rfl
          · exact h.free q.1
          · exact f1
          · exact f2
        · cases r with
          | none => exact Nat.le_succ_of_le ly
          | some y => show (ys ++ [y]).length ≤ i + 1; rw [List.length_append]; exact Nat.succ_le_succ ly
        · cases r with
          | none => exact w'
          | some y => exact w'.2
    | _ => exact fun _ ht => nomatch ht
  · have z1 := r1.length
    have z2 := r2.length
    rw [Array.length_toList] at z1 z2
    have hend : A1[i]? = none ∨ A2[i]? = none := by
      rw [List.length_zip] at lt
      by_cases q : i < us1.length
      · exact .inr (Array.getElem?_eq_none (by lia))
      · exact .inl (Array.getElem?_eq_none (by lia))
    refine wpAny_pyNext_zip_end hh D st.z st.ti to st.i1 st.i2 st.h1 st.h2 hend fun h5 k5 => ?_
    replace k5 : ∀ (b : Nat) o, b ≠ k.I + 4 → b ≠ k.I + 3 → b ≠ k.I → b ≠ k.I + 1 → t.heap.get? b = some o → h5.get? b = some o := k5
    rw [List.drop_eq_nil_of_le (by lia)] at w1
    exact fin _ ys (go h5 t.toks fun b o n e => k5 b o (fun q => n (by lia)) (fun q => n (by lia)) (fun q => n (by lia)) (fun q => n (by lia)) e) w1.2
end
end TC

namespace TC
open PySem PySem.W PyProof.Rows

section
variable {c : Cf} {s : Shared} {tg iter elt : Expr} {topt : Option Nat} {ifs : List Expr} {cs : Es} {e src : TC.E} {K : V → Prop} {us : List V} {v₀ : Value} {h' : Heap} {pos p : Pos} {sc : Scope} {xs : List Str} {cx' : Cx} {cl : List (Str × Addr)}
theorem ZDl (sr : Src c s v₀ h' us) {t : Shared} (k3 : Keep h' t.heap) {Q : Value → Shared → Prop} {E : Value → Shared → Prop} (q : Q (.ref s.heap.objs.size) t) : wpAny c.M c.A (pyIter (.ref s.heap.objs.size)) Q E t := by
  obtain ⟨It, src, ⟨fp, St, Wk, st0, hfp, hIt⟩, hsrc, hR, hP⟩ := sr
  exact Wk.self 0 t _ _ (Wk.frame 0 h' t.heap st0 fun b hb o e => k3 b o e) q
noncomputable abbrev Blk (c : Cf) (cx' : Cx) (ifs : List Expr) (elt : Expr) (cs : Es) (e : TC.E) : Prop := ∀ c', c'.dep = c.dep → c'.cx = cx' → Wf c' → OkL c' ifs cs ∧ Ok c' elt e
theorem blk_n {c' : Cf} (T : Blk c cx' ifs elt cs e) (W' : Wf c') (h1 : c'.dep = c.dep) (h2 : c'.cx = cx') : OkL c' ifs cs ∧ OkN false c' elt e := ⟨(T c' h1 h2 W').1, (T c' h1 h2 W').2.ev.n⟩
theorem Xp (W : Wf c) (a : At c s) (hi : c.cx.inner sc xs = some cx') (hcl : ∀ x, (x, NameKind.free) ∈ sc.names → cl.lookup x = c.env.cells.lookup x) (hcl2 : ∀ x a, cl.lookup x = some a → c.env.cells.lookup x = some a) (lt : s.heap.objs.size < h'.objs.size) (kh : Keep s.heap h') {it : Value} {P : Nat → AP} {R : Value → Addr → Result → Shared → Prop}
    (self : ∀ (t : Shared) (Q : Value → Shared → Prop) (E : Value → Shared → Prop), Keep h' t.heap → Q it t → wpAny c.M c.A (pyIter it) Q E t)
    (loop : ∀ D t, h'.objs.size = D → Cb.Ok ⟨c, s, sc, xs, cx', cl, D⟩ → Keep h' t.heap → Cb.Lp ⟨c, s, sc, xs, cx', cl, D⟩ (P D) [] t → codeAny c.M c.A (.compLoop (.ListComp elt [⟨tg, iter, ifs, 0⟩] sc pos) 0 it (.ref D) (Cb.env ⟨c, s, sc, xs, cx', cl, D⟩)) (R (.ref D) (D + 1)) t) :
    c.wp (newList []) (fun acc s₃ => c.wp (newFunctionEnv sc c.env.globals cl [] c.env.qual none .none (some c.env)) (fun cenv s₄ =>
      codeAny c.M c.A (.compStart (.ListComp elt [⟨tg, iter, ifs, 0⟩] sc pos) 0 it acc { cenv with scope := relabel sc c.env }) (R acc cenv.locals) s₄) s₃) { s with heap := h' } := by
  obtain ⟨i1, i2, _⟩ := Jf hi
  refine wpAny_newObj_type (ZBn ?_) (by size_fits)
  dsimp only
  generalize hD : h'.objs.size = D at lt loop
  have eC : (h'.push { cls := .type "list", dict := none, data := .seq ([] : List Value).toArray }).objs.size = D + 1 := by rw [Heap.size_push, hD]
  simp only [eC]
  have ok := cellsFrom_ok sc.names ((h'.push { cls := .type "list", dict := none, data := .seq ([] : List Value).toArray }).push { cls := .type "dict", data := .dict #[] }) (D + 1 + 1) [] ⟨(fun _ _ hm => nomatch hm), List.Pairwise.nil⟩ (by rw [Heap.size_push, eC]; exact Nat.le_refl _)
  rw [show ((h'.push { cls := .type "list", dict := none, data := .seq ([] : List Value).toArray }).push { cls := .type "dict", data := .dict #[] }).objs.size = D + 1 + 1 from by rw [Heap.size_push, eC]] at ok
  generalize h3e : pushCells ((h'.push { cls := .type "list", dict := none, data := .seq ([] : List Value).toArray }).push { cls := .type "dict", data := .dict #[] }) sc.names = h3 at ok ⊢
  have k3 : Keep h' h3 := fun b o e => by rw [← h3e]; exact pushCells_keeps _ _ b o (Heap.get?_push_of_some _ (Heap.get?_push_of_some _ e))
  have hD3 : h3.get? D = some (listObj #[] 0) := by
    rw [← h3e]; refine pushCells_keeps _ _ _ _ (Heap.get?_push_of_some _ ?_)
    rw [← hD]; exact Heap.get?_push_size _ rfl
  have hC3 : h3.Ns (D + 1) (fun _ => none) := by
    rw [← h3e]
    have := (Heap.Ns.new (h'.push { cls := .type "list", dict := none, data := .seq ([] : List Value).toArray }) (.type "dict"))
    rw [eC] at this
    exact this.keeps (pushCells_keeps _ _)
  let k : Cb := ⟨c, s, sc, xs, cx', cl, D⟩
  have h : k.Ok := ⟨W, a, hi, hcl, hcl2, lt, fun x b q => (ok.empty x b (mem_of_lookup q)).2⟩
  have fm : Fm k.env k.own h3 := by
    refine ⟨i1, ⟨_, hC3⟩, fun x b e => ⟨none, (ok.empty x b (mem_of_lookup e)).1⟩, fun x b e => ?_, fun y b e x ex => ?_⟩
    · show (k.own ++ cl).lookup x = some b
      rw [Je, e]; rfl
    · replace e : (k.own ++ cl).lookup y = some b := e
      rw [Je] at e
      cases q : k.own.lookup y with
      | some b' => rw [q] at e; cases e; exact name_of_addr ok.apart (mem_of_lookup ex) (mem_of_lookup q)
      | none =>
        rw [q] at e
        obtain ⟨o, z⟩ := a.cok y b (hcl2 y b e)
        exact h.off (.inr (.inr (.inr ⟨x, ex⟩))) z
  have L : ∀ t : Shared, t.heap = h3 → Same s t → k.Lp (P D) [] t := fun t e m => ⟨e ▸ Ext.of fun b o q => k3 b o (kh b o q), m, ⟨D, #[], 0, rfl, e ▸ hD3, .nil⟩, e ▸ fm⟩
  have loop : ∀ t : Shared, t.heap = h3 → Same s t → codeAny c.M c.A (.compLoop (.ListComp elt [⟨tg, iter, ifs, 0⟩] sc pos) 0 it (.ref D) k.env) (R (.ref D) (D + 1)) t := fun t e m => loop D t rfl h (e ▸ k3) (L t e m)
  exact codeAny_compStart_list (loop _ rfl ⟨rfl, rfl⟩) (self _ _ _ k3 (loop _ rfl ⟨rfl, rfl⟩))
inductive CompOk (c : Cf) (elt : Expr) (gs : List Comprehension) (sc : Scope) (e : TC.E) : Prop
  | mk (tg iter : Expr) (ifs : List Expr) (xs : List Str) (cx' : Cx) : gs = [⟨tg, iter, ifs, 0⟩] →
    (∀ s p pos K use Q, At c s → wpE (Φ c) c.hm c.X e c.ρ K → (∀ s₁ cl D t ys, Ext c.fr s.heap s₁.heap → Cb.Ok ⟨c, s₁, sc, xs, cx', cl, D⟩ → Cb.Lp ⟨c, s₁, sc, xs, cx', cl, D⟩ (Cb.hd ⟨c, s₁, sc, xs, cx', cl, D⟩) ys t → K (.own (.list ys)) → compPost c.M c.A c.E use Q (.ref D) (D + 1) (.ok .next) t) →
      c.wp (comprehension (.ListComp elt [⟨tg, iter, ifs, 0⟩] sc pos) sc c.env p (newList []) false (eval iter c.env) use) Q s) → CompOk c elt gs sc e
theorem ZBm (W : Wf c) (hs : Ok c iter src) (hf : ∀ x, foldedSetIterable iter c.env x = pure x) (ht : tgtNames (view tg) = some (topt, xs)) (hi : c.cx.inner sc xs = some cx') (hz : ifs.length ≤ 1) (T : Blk c cx' ifs elt cs e) : CompOk c elt [⟨tg, iter, ifs, 0⟩] sc (.comp topt src cs e) := ⟨tg, iter, ifs, xs, cx', rfl, fun s p pos K use Q a w fin => by
  obtain ⟨i1, i2, i3, i4, fs, i5, _⟩ := Jf hi
  obtain ⟨f1, f2⟩ := Qe fs i5
  obtain ⟨cl, c1, c2, c3⟩ := Xn (env := c.env) (sc := sc) fun x hx => W.envok.cells x (f2 x hx)
  refine wpAny_comprehension_free (g := ⟨tg, iter, ifs, 0⟩) (gs := []) rfl hf c1 i1 (fun x hx q => ?_) (hs.ev s _ _ a w fun v s₁ u a₁ x₁ r w₁ => Zx w₁ fun us e w₂ => VH W.toWfC a₁ r us e _ fun h' kh sr => ?_)
  · obtain ⟨y, k⟩ := x; cases q; exact JH i2 hx
  · have lt : s₁.heap.objs.size < h'.objs.size := by
      obtain ⟨It, src, ⟨fp, St, Wk, st0, hfp, hIt⟩, _⟩ := sr
      exact (hfp _ (Wk.sub _ (.head _))).1
    exact Xp (P := fun D => Cb.hd ⟨c, s₁, sc, xs, cx', cl, D⟩) (R := compPost c.M c.A c.E use Q) W a₁ hi c2 c3 lt kh (fun t Q E k q => ZDl sr k q) fun D t hD h kt L => h.loop ⟨ht, hz, fun us t E W' => blk_n T W' rfl rfl⟩ sr w₂.1 w₂.2 kt (fun b q => hD ▸ q) L fun t ys L hk => fin s₁ cl D t ys x₁ h L hk⟩
theorem ZEi : bootBuiltins "zip" = some (.type "zip") := by decide +kernel
theorem ZAp (W : WfC c) (a : At c s) {v : Value} {u : V} (r : c.R s v u) : All (zipL u) (ZL c s v) := by
  have plain : ∀ {y}, PR c.hid s.heap v y → All ((listOf y).map (·.map V.d)) (ZL c s v) := fun {y} r => .map fun xs e => by
    rw [QR y xs e] at r
    obtain ⟨l, vs, m, h1, h2, h3, h4⟩ := r.inv
    exact ⟨l, vs, m, h1, h3, fun q => h2 (W.sub l q), h4.rs fun _ _ q => q, fun u hu => by obtain ⟨y, _, rfl⟩ := List.mem_map.mp hu; exact .inl ⟨y, rfl⟩⟩
  cases u with
  | d y => exact plain r
  | own y => exact plain (W.keep a.toAtC r y rfl)
  | brw y =>
      refine .map fun xs e => ?_
      rw [QR y xs e] at r
      obtain ⟨l, vs, m, h1, h2, h3, h4⟩ := PR.inv r
      exact ⟨l, vs, m, h1, h3, h2, h4.rs fun _ _ q => Wu a.toAtC q, fun u hu => by obtain ⟨y, _, rfl⟩ := List.mem_map.mp hu; exact UQ y⟩
  | _ => exact .no
theorem ZL.ext {s' : Shared} {v : Value} {us : List V} (W : WfC c) (z : ZL c s v us) (x : Ext c.fr s.heap s'.heap) : ZL c s' v us := by
  obtain ⟨l, xs, m, h1, h2, h3, h4, h5⟩ := z
  exact ⟨l, xs, m, h1, (x l _ h2).1 h3, h3, h4.imp fun _ _ r => W.R r x, h5⟩
noncomputable abbrev BlkT (c : Cf) (cx' : Cx) (ifs els : List Expr) (cs es : Es) : Prop := ∀ c', c'.dep = c.dep → c'.cx = cx' → Wf c' → OkL c' ifs cs ∧ OkL c' els es
theorem ZHi {c : Cf} {els : List Expr} {es : Es} {tn : Nat} {tp : Pos} (W : Wf c) (h : OkL c els es) (hz : els.length < 1000) : OkN true c (.Tuple els tn tp) (.tup es) := fun s K Q A w k => Tuple_ (VA W h A w fun vs s' us a x rs l w1 => Zx w1 fun xs e w2 => by
  refine wpAny_newObj_type ?_ (fits vs (by rw [rs.length, l]; exact hz))
  refine k _ { s' with heap := s'.heap.push _ } (.d (.tuple xs)) (W.go a (s' := { s' with heap := s'.heap.push _ }) (Ext.of (JQ _ _)) ⟨rfl, rfl⟩) (x.trans (Ext.of (JQ _ _))) ?_ (fun _ a e => ?_) w2
  · exact PR.tuple (W.new_hid (a.ext.gone (JW _))) (Heap.get?_push_size _ rfl) ((rs.keep (fun _ _ r => W.keep a.toAtC r) xs e).move fun b o nb e => ⟨nb, JQ _ _ b o e⟩)
  · cases e; exact x.gone (JW _))
theorem blkT_n {c' : Cf} {els : List Expr} {es : Es} {tn : Nat} {tp : Pos} (T : BlkT c cx' ifs els cs es) (he : els.length < 1000) (W' : Wf c') (h1 : c'.dep = c.dep) (h2 : c'.cx = cx') : OkL c' ifs cs ∧ OkN true c' (.Tuple els tn tp) (.tup es) := ⟨(T c' h1 h2 W').1, ZHi W' (T c' h1 h2 W').2 he⟩
theorem ZAo {l r : Expr} {ea eb : TC.E} {zp cp tp : Pos} {tn : Nat} {els : List Expr} {es : Es} (W : Wf c) (hl : Ok c l ea) (hr : Ok c r eb) (hg : c.cx.glob "zip" = true) (ht : tgtNames (view tg) = some (some 2, xs)) (hi : c.cx.inner sc xs = some cx') (hz : ifs.length ≤ 1) (T : BlkT c cx' ifs els cs es) (he : els.length < 1000) : CompOk c (.Tuple els tn tp) [⟨tg, .Call (.Name "zip" zp) [l, r] [] cp, ifs, 0⟩] sc (.zcomp ea eb cs es) := ⟨tg, _, ifs, xs, cx', rfl, fun s p pos K use Q a w fin => by
  obtain ⟨i1, i2, i3, i4, fs, i5, _⟩ := Jf hi
  obtain ⟨f1, f2⟩ := Qe fs i5
  obtain ⟨cl, c1, c2, c3⟩ := Xn (env := c.env) (sc := sc) fun x hx => W.envok.cells x (f2 x hx)
  refine wpAny_comprehension_free (g := ⟨tg, .Call (.Name "zip" zp) [l, r] [] cp, ifs, 0⟩) (gs := []) rfl (fun _ => rfl) c1 i1 (fun x hx q => ?_) ?_
  · obtain ⟨y, k⟩ := x; cases q; exact JH i2 hx
  · refine PyProof.Rows.Call_ (Jc W a.toAtC hg (by decide) ZEi (Qa rfl hl.pl (by rw [hr.pl]; rfl) (args_cons (hl.ev s _ _ a w fun v1 s₁ u1 a1 x1 r1 w1 => args_cons (hr.ev s₁ _ _ a1 w1 fun v2 s₂ u2 a2 x2 r2 w2 => args_nil (Zx w2 fun us1 e1 w => Zx w fun us2 e2 w => ?_)) (hr.pl _ _)) (hl.pl _ _))))
    obtain ⟨l1, A1, m1, rfl, g1, n1, q1, p1⟩ := (ZAp W.toWfC a1 r1 us1 e1).ext W.toWfC x2
    obtain ⟨l2, A2, m2, rfl, g2, n2, q2, p2⟩ := ZAp W.toWfC a2 r2 us2 e2
    have hh : c.A.handled = none := by
      have := (Jj w).1 rfl
      rcases a2.hok with q | q
      · exact q.2
      · rw [this] at q; exact nomatch q.1
    have w := (Jj w).2
    refine call_zip_2 (s := s₂) ⟨_, g1, rfl, m1, rfl⟩ ⟨_, g2, rfl, m2, rfl⟩ fun h' z ti to i1' i2' sz kh => ?_
    have st : ∀ t : Shared, Keep h' t.heap → ZSt s₂.heap.objs.size l1 l2 A1 A2 0 t.heap := fun t kt => (ZSt.mk z ti ⟨_, _, to⟩ i1' i2' ⟨_, kh _ _ g1, rfl, m1, rfl⟩ ⟨_, kh _ _ g2, rfl, m2, rfl⟩ : ZSt s₂.heap.objs.size l1 l2 A1 A2 0 h').move fun b o _ e => kt b o e
    refine wpAny_pyIter_zip (s := { s₂ with heap := h' }) z ?_
    refine Xp (P := fun D => Cb.zh ⟨c, s₂, sc, xs, cx', cl, D⟩) (R := compPost c.M c.A c.E use Q) W a2 hi c2 c3 (by rw [sz]; lia) kh (fun t Q E k q => wpAny_pyIter_zip (st t k).z q) fun D t hD h kt L => ?_
    refine h.zloop ⟨ht, hz, fun us t E W' => blkT_n T he W' rfl rfl⟩ hh g1 g2 n1 n2 q1 q2 p1 p2 w.1 w.2 (st t kt) (by show s₂.heap.objs.size + 4 < D; rw [← hD, sz]; lia) L fun t ys L hk => fin s₂ cl D t ys (x1.trans x2) h ⟨L.x, L.m, ?_, L.fm⟩ hk
    obtain ⟨D', ws, nn, eD, hD, rD⟩ := L.acc
    exact ⟨D', ws, nn, eD, hD, rD.anti fun _ q => .inr q⟩⟩
theorem Gf {gs : List Comprehension} (W : Wf c) (h : CompOk c elt gs sc e) : OkE c (.ListComp elt gs sc pos) e := fun s K Q a w k => by
  obtain ⟨tg, iter, ifs, xs, cx', rfl, h⟩ := h
  rw [eval_ListComp]
  refine h s _ _ K none Q a w fun s₁ cl D t ys x₁ h L hk => ?_
  obtain ⟨m, n⟩ := L.fm.ns
  refine ⟨m, n, fun h' sb => ?_⟩
  have kp : ∀ b o, b ≠ D + 1 → t.heap.get? b = some o → h'.get? b = some o := fun b o hb e => (sb.2 b hb).trans e
  have x2 : Ext c.fr s₁.heap h' := L.x.on (P := (· = D + 1)) kp fun b q => h.new (.inr (.inr (.inl q)))
  obtain ⟨_, ws, nn, eD, hD, rD⟩ := L.acc
  cases eD
  have nD : s₁.heap.get? D = none := h.new (.inr (.inl rfl))
  refine k _ { t with heap := h' } (.own (.list ys)) (W.go h.A x2 ⟨L.m.1, L.m.2⟩) (x₁.trans x2) ⟨D, rfl, h.A.ext.gone nD, ws, nn, kp D _ (Nat.ne_of_lt (Nat.lt_succ_self D)) hD, rD.move fun b o n e => ⟨fun q => n (q.elim (fun q => .inl (.inr (.inl q))) .inr), kp b o (fun q => n (.inl (.inr (.inr (.inl q))))) e⟩⟩ hk
end

section
variable {c : Cf} {pos p : Pos}
theorem ZEw {s : Shared} {v : Value} {u : V} (W : WfC c) (a : AtC c s) (r : c.R s v u) : All (argV u) fun u' => VR c.G.ca s.heap c.hid c.fr s.heap v u' ∧ argV u' = some u' := by
  cases u with
  | d x => exact .so ⟨r, rfl⟩
  | own x => exact .so ⟨W.keep a r x rfl, rfl⟩
  | brw x => exact .so ⟨r, rfl⟩
  | exc k => exact .so ⟨r, rfl⟩
  | rg n => exact .no
theorem args_V {s : Shared} (W : WfC c) (a : AtC c s) {vs : List Value} {us : List V} (r : Rs (c.R s) vs us) : All (argAll us) (Rs (fun v u => VR c.G.ca s.heap c.hid c.fr s.heap v u ∧ argV u = some u) vs) :=
  Rs.rec (motive := fun vs us _ => All (argAll us) (Rs (fun v u => VR c.G.ca s.heap c.hid c.fr s.heap v u ∧ argV u = some u) vs)) (.so .nil) (fun q _ ih => .bind fun u' h1 => .map fun us' h2 => .cons (ZEw W a q u' h1) (ih us' h2)) r
noncomputable def Calls (c : Cf) : Prop := ∀ s f z vs us K Q, c.G.fa[f]? = some z → AtC c s → Rs (fun v u => VR c.G.ca s.heap c.hid c.fr s.heap v u ∧ argV u = some u) vs us → Φ c c.hm f us K c.X → (∀ v s' u, AtC c s' → Ext c.fr s.heap s'.heap → VR c.G.ca s.heap c.hid c.fr s'.heap v u → K u → Q v s') → c.wp (call (.ref z) vs) Q s
theorem VR.back {ca : List Addr} {h₀ h₁ h : Heap} {hid fr : AP} {v : Value} {u : V} (r : VR ca h₁ hid fr h v u) (x : Ext fr h₀ h₁) : VR ca h₀ hid fr h v u := by
  cases u with
  | own y => obtain ⟨a, e, n, r⟩ := r; exact ⟨a, e, x.gone n, r⟩
  | _ => exact r
theorem fn_at (O : c.G.Ok) {k : Nat} {z : Addr} (h : c.G.fa[k]? = some z) : ∃ o fd, c.G.B.get? z = some o ∧ o.data = .func fd := by
  obtain ⟨d, fn, ow, h1, h2, h3, h4, h5⟩ := O.fok k z h
  obtain ⟨a', o, pm, code, doc, q1, q2, q3, q4⟩ := O.top.fn d h1
  have := mg_of O.inK O.top.g h2
  rw [q1] at this
  cases this
  exact ⟨o, _, q2, q3⟩
theorem ZBf (W : Wf c) (C : Calls c) {f : Str} {args : List Expr} {es : Es} {k : Nat} (hg : c.cx.glob f = true) (lf : c.cx.fns.lookup f = some k) (hl : OkL c args es) {g : List V → List V} (gr : ∀ (s : Shared) (vs : List Value) (us : List V), Rs (fun v u => VR c.G.ca s.heap c.hid c.fr s.heap v u ∧ argV u = some u) vs us → Rs (fun v u => VR c.G.ca s.heap c.hid c.fr s.heap v u ∧ argV u = some u) vs (g us))
    (s : Shared) (K : V → Prop) (Q : Value → Shared → Prop) (a : At c s) (w : seqW (wpL (Φ c) c.hm c.X es c.ρ) fun vs => got (argAll vs) fun us => Φ c c.hm k (g us) K c.X) (kk : Fin c s K Q) : c.wp (eval (.Call (.Name f p) args [] pos) c.env) Q s := by
  obtain ⟨z, h1, h2⟩ := W.ok.fnm f k (by rw [← W.envok.fns]; exact lf)
  obtain ⟨o, fd, h3, h4⟩ := fn_at W.ok h1
  refine PyProof.Rows.Call_ (Qw W a.toAtC hg h2 (Calls.callWith_function (o := o) (fd := fd) ?_))
  have fin : ∀ vs s' us, At c s' → Ext c.fr s.heap s'.heap → Rs (c.R s') vs us → us.length = args.length → got (argAll us) (fun us => Φ c c.hm k (g us) K c.X) → (s'.heap.get? z = some o ∧ o.data = .func fd) ∧ c.wp (call (.ref z) vs) Q s' := fun vs s' us a' x r l w' =>
    ⟨⟨a'.stk.base _ _ h3, h4⟩, Zx w' fun us' e w'' => C s' k z vs (g us') K Q h1 a'.toAtC (gr _ _ _ (args_V W.toWfC a'.toAtC r us' e)) w'' fun v s₂ u a₂ x₂ r₂ hk => kk v s₂ u (W.go a' x₂ (Same.mk' a'.same a₂.same)) (x.trans x₂) (r₂.back a'.ext) hk⟩
  cases args with
  | nil => cases es with
    | nil => exact PyProof.Rows.evalArgs_none (fin [] s [] a (Ext.refl _ _) .nil rfl w)
    | cons => exact hl.elim
  | cons e args =>
    have := VA (pos := pos) W hl a w fin
    cases es with
    | nil => exact hl.elim
    | cons e' es =>
      rw [hl.1.pl] at this ⊢
      exact Calls.evalArgs_plain this
theorem Gc (W : Wf c) (C : Calls c) {f : Str} {args : List Expr} {es : Es} {k : Nat} (hg : c.cx.glob f = true) (lf : c.cx.fns.lookup f = some k) (hl : OkL c args es) : OkE c (.Call (.Name f p) args [] pos) (.call k es) := fun s K Q a w kk => ZBf W C hg lf hl (g := fun us => us) (fun _ _ _ r => r) s K Q a w kk

theorem ZHk : ∀ q ∈ tyNames, bootBuiltins q.1 = some (.type (tyStr q.2)) ∧ q.1 ∈ usedNames := by decide +kernel
noncomputable def isExcT : Ty → Bool
  | .exc _ => true
  | _ => false
theorem ty_exc : ∀ q ∈ tyNames, isExcT q.2 = false := by decide +kernel
theorem isi_at {s : Shared} {v : Value} {u : V} {K : V → Prop} {Q : Value → Shared → Prop} (W : WfC c) (a : At c s) (r : c.R s v u) (ty : Ty) (nt : ∀ j, ty ≠ .exc j) (k : Fin c s K Q) (w : got (isiV ty u) fun b => K (.d (.bool b))) : c.wp (call (.builtin "isinstance") [v, .type (tyStr ty)]) Q s := by
  have data : ∀ x, rd u = some x → (ty ≠ .valueError → K (.d (.bool (ty.has x)))) → ty ≠ .valueError → c.wp (call (.builtin "isinstance") [v, .type (tyStr ty)]) Q s := fun x e h n => ZCb (W.rdf r x e) ty (W.ret a k (h n)) n nt
  refine Zx w fun b e w => ?_
  have gen : ((rd u).map fun x => ty.has x) = some b → ty ≠ .valueError → c.wp (call (.builtin "isinstance") [v, .type (tyStr ty)]) Q s := fun e n => by
    obtain ⟨x, e1, e2⟩ := Option.map_eq_some_iff.mp e
    exact data x e1 (fun _ => e2 ▸ w) n
  cases u with
  | exc j => cases ty with
    | valueError => cases e; exact VG W a.toAtC r (W.ret a k w)
    | exc j => exact absurd rfl (nt j)
    | _ => exact nomatch e
  | _ => cases ty with
    | exc j => exact absurd rfl (nt j)
    | valueError => exact nomatch e
    | _ => exact gen e nofun
theorem ZCa (W : Wf c) {l : Expr} {a : TC.E} (h : Ok c l a) (hg : c.cx.glob "isinstance" = true) {t : Str} (ht : c.cx.glob t = true) {q : Pos} : All (lowTy c.cx t) fun ty => OkE c (.Call (.Name "isinstance" p) [l, .Name t q] [] pos) (.f1 (.isi ty) a) := fun ty lo s K Q A w k => by
  refine PyProof.Rows.Call_ (Jc W A.toAtC hg (by decide) (v := .builtin "isinstance") (by decide +kernel) (Qa rfl h.pl rfl (args_cons (h.ev s _ _ A w fun v1 s₁ u1 a1 x1 r1 w1 => args_cons ?_ rfl) (h.pl _ _))))
  unfold lowTy at lo
  cases e : tyNames.lookup t with
  | some ty' =>
    rw [e] at lo
    cases lo
    obtain ⟨b1, b2⟩ := ZHk (t, ty) (Qf e)
    refine Jc W a1.toAtC ht b2 b1 (args_nil (isi_at W.toWfC a1 r1 ty (fun j z => ?_) (k.at x1) (Jj w1).2))
    subst z
    exact nomatch ty_exc _ (Qf e)
  | none =>
    rw [e] at lo
    obtain ⟨j, hj, rfl⟩ := Option.map_eq_some_iff.mp lo
    obtain ⟨z, h1, h2⟩ := W.ok.cnm t j (by rw [← W.envok.cls]; exact hj)
    refine Qw W a1.toAtC ht h2 (args_nil (Zx (Jj w1).2 fun b e w => ?_))
    cases u1 with
    | exc i => cases e; exact UN W.toWfC a1.toAtC r1 h1 (W.ret a1 (k.at x1) w)
    | _ => exact nomatch e
end
end TC

namespace TC
open PySem PySem.W PyProof.Rows

section
variable {c : Cf} {pe l r : Expr} {e : TC.E} {pos p : Pos}
noncomputable abbrev PlainT (c : Cf) (pe : Expr) : Prop := isTrue pe c.env (eval pe c.env) = (do let v ← eval pe c.env; standAt pe.pos; holding [v] (truthy v))
theorem Ok.of (h : OkE c pe e) (he : PlainT c pe) (pl : Plain pe) (ns : NoSl pe) : Ok c pe e := ⟨h, fun s K Q a w kb k => isTrue_plain (h s K _ a w fun v s' u a' x r hk => by
  obtain ⟨b, rfl⟩ := kb u hk
  rw [PR.inv r]
  exact wpAny_truthy_bool (k b s' a' x hk)) he, pl, ns⟩
theorem Wl (W : Wf c) (x : Const) {i : Nat} : All (constD x) fun y => OkE c (.Constant x i pos) (.k y) := by
  cases x with
  | int j => exact .so fun s K Q a w k => wpAny_Constant_int ((W.ret a k w).int _ _)
  | str j => exact .so fun s K Q a w k => Calls.Constant_str (W.ret a k w _ { s with toks := _ } (Ext.refl _ _) ⟨rfl, rfl⟩ (PR.str _ _))
  | bool j => exact .so fun s K Q a w k => PyProof.Rows.Constant_bool (W.ret a k w).bool'
  | none => exact .so fun s K Q a w k => PyProof.Rows.Constant_none (W.ret a k w _ s (Ext.refl _ _) (Same.refl _) PR.non)
  | _ => exact .no
theorem HW (W : Wf c) (x : Str) : All ((c.cx.var x).elim (cond (c.cx.glob x) ((c.cx.cst.lookup x).map fun i => TC.E.k (.int i)) none) fun i => some (.nm i)) (OkE c (.Name x pos)) := by
  cases h : c.cx.var x with
  | some i => exact .so (nm_ok W i h)
  | none =>
    refine .ite fun hg => .map fun i h1 => fun s K Q a w k => ?_
    obtain ⟨tk, h2⟩ := W.ok.cnst x i (by rw [← W.envok.cst]; exact h1)
    exact Qw W a.toAtC hg h2 (W.ret a k w _ s (Ext.refl _ _) (Same.refl _) (PR.int _ _))
theorem ZAg (W : Wf c) : All ((asIntC l).map fun i => TC.E.k (.int (-i))) (OkE c (.UnaryOp .USub l pos)) := .map fun i h s K Q a w k => by
  obtain ⟨_, _, rfl⟩ := XV l i h
  exact UnaryOp_ (wpAny_Constant_int (PyProof.Rows.neg_int ((W.ret a k w).int _ _)))
theorem ZFt (o : CmpOp) : All (isOp o) fun neg => o = cond neg .IsNot .Is := by
  cases o with
  | Is => exact .so rfl
  | IsNot => exact .so rfl
  | _ => exact .no
variable {f : Expr → Option TC.E}
theorem Vg (W : Wf c) (h : ∀ pe, All (f pe) (Ok c pe)) (os : List CmpOp) (rs : List Expr) : All (lowCompare f l os rs) fun e => OkE c (.Compare l os rs pos) e ∧ OkT c (.Compare l os rs pos) e := by
  have gen : All (lowCmps f l os rs) fun e => OkE c (.Compare l os rs pos) e ∧ OkT c (.Compare l os rs pos) e := .ite fun hm => .bind fun a h1 => .map fun q h2 => by
    have hm : lastMarks os rs = false := by cases z : lastMarks os rs with | false => rfl | true => rw [z] at hm; cases hm
    have hc := (WH h os rs q h2).1
    exact ⟨ZBk W (h l a h1) hm hc, ZBl W (h l a h1) hm hc⟩
  rcases os with _ | ⟨o, _ | ⟨o2, os⟩⟩
  · exact gen
  · rcases rs with _ | ⟨r, _ | ⟨r2, rs⟩⟩
    · exact gen
    · refine .cond (fun _ => .bind fun neg hn => .ite fun hr => .map fun a h1 => ?_) fun _ => gen
      rw [ZFt o neg hn]
      exact ⟨Ha W (h l a h1) hr, Hd W (h l a h1) hr⟩
    · exact gen
  · exact gen
theorem Ga (W : Wf c) (h : ∀ pe, All (f pe) (Ok c pe)) (o : Operator) : All (lowBin f l o r) (OkE c (.BinOp l o r pos)) :=
  .cond (fun hp => ZCz W hp) fun _ => .bind fun o' ho => .bind fun a h1 => .map fun b h2 => ZBa W (h l a h1) (h r b h2) ho
theorem ZAw {cx : Cx} (pe : Expr) : All (asSet cx (view pe)) fun a => ∃ p2 pos2, pe = .Call (.Name "set" p2) [a] [] pos2 ∧ cx.glob "set" = true := by
  have ve := JU pe
  revert ve
  cases view pe with
  | call f as kws p =>
    intro ve
    rcases as with _ | ⟨a, _ | ⟨b, as⟩⟩ <;> rcases kws with _ | ⟨k, kws⟩ <;> try exact .no
    refine .bind fun g hg => .ite fun c => .so ?_
    obtain ⟨zp, rfl⟩ := Jo f g hg
    have c := Bool.and_eq_true_iff.mp c
    obtain rfl := beq_iff_eq.mp c.1
    exact ⟨zp, p, ve.symm, c.2⟩
  | _ => exact fun _ => .no
theorem ZAv {cx : Cx} (pe : Expr) : All (asRev cx (view pe)) fun a => ∃ p2 pos2, pe = .Call (.Name "reversed" p2) [a] [] pos2 ∧ cx.glob "reversed" = true := by
  have ve := JU pe
  revert ve
  cases view pe with
  | call f as kws p =>
    intro ve
    rcases as with _ | ⟨a, _ | ⟨b, as⟩⟩ <;> rcases kws with _ | ⟨k, kws⟩ <;> try exact .no
    refine .bind fun g hg => .ite fun c => .so ?_
    obtain ⟨zp, rfl⟩ := Jo f g hg
    have c := Bool.and_eq_true_iff.mp c
    obtain rfl := beq_iff_eq.mp c.1
    exact ⟨zp, p, ve.symm, c.2⟩
  | _ => exact fun _ => .no
theorem We (W : Wf c) (h : ∀ pe, All (f pe) (Ok c pe)) {g : Str} (hg : c.cx.glob g = true) (args : List Expr) (kws : List Keyword) : All (lowBuilt f c.cx g args kws) (OkE c (.Call (.Name g p) args kws pos)) := by
  rcases args with _ | ⟨a, _ | ⟨b, _ | ⟨d, args⟩⟩⟩
  · exact .no
  · rcases kws with _ | ⟨k, _ | ⟨k2, kws⟩⟩
    · refine .bind fun f1 hf => ?_
      cases zr : asRev c.cx (view a) with
      | some b =>
        refine .ite fun q => .map fun e h1 => ?_
        rw [beq_iff_eq.mp q] at hg ⊢
        obtain ⟨p2, pos2, rfl, hs⟩ := ZAv a b zr
        exact ZDc W (h b e h1) hg hs
      | none =>
      cases z : asSet c.cx (view a) with
      | none => exact .map fun e h1 => ZFi W (h a e h1) hg hf
      | some b =>
        refine .ite fun q => .map fun e h1 => ?_
        rw [beq_iff_eq.mp q] at hg ⊢
        obtain ⟨p2, pos2, rfl, hs⟩ := ZAw a b z
        exact Gj W (h b e h1) hg hs
    · refine .bind fun kn hk => .ite fun q => .map fun e h1 => ?_
      have q := Bool.and_eq_true_iff.mp q
      rw [beq_iff_eq.mp q.2] at hk
      rw [beq_iff_eq.mp q.1] at hg ⊢
      exact UC W (h a e h1) hg hk
    · exact .no
  · rcases kws with _ | ⟨k, kws⟩
    · refine .cond (fun q => .bind fun t ht => .ite fun hgt => .bind fun ty hty => .map fun e h1 => ?_) fun _ => .bind fun f2 hf => .bind fun e1 h1 => .map fun e2 h2 => ZFl W (h a e1 h1) (h b e2 h2) hg hf
      rw [beq_iff_eq.mp q] at hg ⊢
      obtain ⟨pp, rfl⟩ := Jo b t ht
      exact ZCa W (h a e h1) hg hgt ty hty
    · exact .no
  · exact .no
theorem Wg (W : Wf c) (C : Calls c) (h : ∀ pe, All (f pe) (Ok c pe)) (x : Str) {q : Pos} (args : List Expr) (kws : List Keyword) : All (lowCallE f c.cx x args kws) (OkE c (.Call (.Name x q) args kws pos)) := .ite fun hg => by
  cases hl : c.cx.fns.lookup x with
  | none => exact We W h hg args kws
  | some k =>
    refine .ite fun hk => .map fun es h1 => ?_
    cases kws with
    | nil => exact Gc W C hg hl (QB h es h1)
    | cons => exact nomatch hk
theorem Wh (W : Wf c) (C : Calls c) (h : ∀ pe, All (f pe) (Ok c pe)) (g : Expr) (args : List Expr) (kws : List Keyword) : All (lowCalls f c.cx args kws pos (view g)) (OkE c (.Call g args kws pos)) := by
  have ve := JU g
  revert ve
  cases view g with
  | name x q => intro ve; replace ve : Expr.Name x q = g := ve; subst ve; exact Wg W C h x args kws
  | attr a m ap =>
    intro ve
    replace ve : Expr.Attribute a m ap = g := ve
    subst ve
    rcases args with _ | ⟨k, _ | ⟨k2, args⟩⟩
    · exact .no
    · refine .ite fun q => .bind fun e1 h1 => .map fun e2 h2 => ?_
      have q := Bool.and_eq_true_iff.mp q
      have q1 := Bool.and_eq_true_iff.mp q.1
      have q2 := Bool.and_eq_true_iff.mp q1.1
      obtain rfl := beq_iff_eq.mp q.2
      obtain ⟨x, hx⟩ := Option.isSome_iff_exists.mp q1.2
      obtain ⟨np, rfl⟩ := Jo a x hx
      cases kws with
      | nil => exact Wr W q2.2 (h _ e1 h1) (h k e2 h2)
      | cons => exact nomatch q2.1
    · exact .no
  | _ => exact fun _ => .no
end
noncomputable abbrev SE (dep n : Nat) : Prop := ∀ c, c.dep = dep → Wf c → ∀ pe, All (lowE n c.cx pe) (Ok c pe)
theorem Vl {n : Nat} {cx : Cx} {env : Env} (pe : Expr) : All (lowE n cx pe) fun _ => ∀ x, foldedSetIterable pe env x = pure x := by
  cases n with
  | zero => exact .no
  | succ n =>
    have ve := JU pe
    show All (lowV (lowE n) cx (view pe)) _
    revert ve
    cases view pe with
    | other => exact fun _ => .no
    | slice => exact fun _ => .no
    | attr => exact fun _ => .no
    | _ => exact fun ve _ _ x => by rw [← ve]; rfl
theorem ZAx {cx : Cx} (pe : Expr) : All (asZip cx (view pe)) fun q => ∃ zp cp, pe = .Call (.Name "zip" zp) [q.1, q.2] [] cp ∧ cx.glob "zip" = true := by
  have ve := JU pe
  revert ve
  cases view pe with
  | call f as kws p =>
    intro ve
    rcases as with _ | ⟨a, _ | ⟨b, _ | ⟨d, as⟩⟩⟩ <;> rcases kws with _ | ⟨k, kws⟩ <;> try exact .no
    refine .bind fun g hg => .ite fun c => .so ?_
    obtain ⟨zp, rfl⟩ := Jo f g hg
    have c := Bool.and_eq_true_iff.mp c
    obtain rfl := beq_iff_eq.mp c.1
    exact ⟨zp, p, ve.symm, c.2⟩
  | _ => exact fun _ => .no
theorem Uq {dep n : Nat} (IH : SE dep n) {c : Cf} (hd : c.dep = dep) (W : Wf c) {elt : Expr} {sc : Scope} (gs : List Comprehension) : All (lowCompE (lowE n) c.cx elt sc gs) (CompOk c elt gs sc) := by
  rcases gs with _ | ⟨⟨t, iter, ifs, ia⟩, _ | ⟨g2, gs⟩⟩
  · exact .no
  · refine .ite fun q => .bind fun tn ht => .bind fun cx' hi => .bind fun e he => .bind fun cs hc => ?_
    have q := Bool.and_eq_true_iff.mp q
    rw [beq_iff_eq.mp q.1]
    have B : Blk c cx' ifs elt cs e := fun c' d' e' W' => by
      subst e'
      have h' := IH c' (d'.trans hd) W'
      exact ⟨QB h' cs hc, h' elt e he⟩
    unfold lowSrc
    cases z : asZip c.cx (view iter) with
    | none => exact .map fun src hs => ZBm W (IH c hd W iter src hs) (Vl iter src hs) ht hi (of_decide_eq_true q.2) B
    | some ab =>
      obtain ⟨zp, cp, rfl, hg⟩ := ZAx iter ab z
      refine .ite fun h2 => .bind fun a ha => .bind fun b hb => ?_
      obtain ⟨t2, xs⟩ := tn
      obtain rfl : t2 = some 2 := beq_iff_eq.mp h2
      have ve := JU elt
      revert ve
      cases view elt with
      | tuple els tn tp =>
        intro ve
        replace ve : Expr.Tuple els tn tp = elt := ve
        subst ve
        exact .ite fun hn => .map fun es hes => ZAo W (IH c hd W _ a ha) (IH c hd W _ b hb) hg ht hi (of_decide_eq_true q.2) (fun c' d' e' W' => by
          subst e'
          have h' := IH c' (d'.trans hd) W'
          exact ⟨QB h' cs hc, QB h' es hes⟩) (of_decide_eq_true hn)
      | _ => exact fun _ => .no
  · exact .no
theorem HY {c : Cf} (W : WfC c) {s : Shared} (a : AtC c s) : (s.heap.objs.size == sysModules) = false := by
  obtain ⟨o, es, ep, ho, _⟩ := W.ok.top.g
  have := Heap.lt_size (a.stk.base _ _ ho)
  exact beq_false_of_ne fun e => by rw [e] at this; exact absurd this (by decide)
theorem Gg {c : Cf} (W : Wf c) {pos : Pos} : OkE c (.Dict [] [] pos) .dic0 := fun s K Q a w k =>
  wpAny_Dict_empty (W.ret a k w _ { s with heap := _ } (Ext.of (JQ _ _)) ⟨rfl, rfl⟩ ⟨_, rfl, a.ext.gone (JW _), #[], 0, Heap.get?_push_size _ rfl, .nil, .nil, .nil (HY W.toWfC a.toAtC)⟩)
theorem Gh {c : Cf} (W : Wf c) {kx : Expr} {k' : TC.E} {i : Nat} {p pos : Pos} (hk : OkE c kx k') : OkE c (.Dict [some kx] [.Constant (.bool true) i p] pos) (.dic1 k') := fun s K Q a w k => by
  have new := JW s.heap
  have off := HY W.toWfC a.toAtC
  generalize hd : s.heap.objs.size = d at new off
  refine wpAny_Dict_walk (knd := intKind c.G.prog c.G.w) rfl rfl (by simp) (by simp) (pairTrees_cons_walk ?_)
  rw [hd]
  have x0 : Ext c.fr s.heap (s.heap.push { cls := .type "dict", data := .dict #[] }) := Ext.of (JQ _ _)
  have hD : (s.heap.push { cls := .type "dict", data := .dict #[] }).get? d = some (dictObj #[] 0) := hd ▸ Heap.get?_push_size _ rfl
  refine hk { s with heap := s.heap.push { cls := .type "dict", data := .dict #[] } } _ _ (W.go a (s' := { s with heap := s.heap.push { cls := .type "dict", data := .dict #[] } }) x0 ⟨rfl, rfl⟩) w fun v s₁ u a₁ x₁ r w₁ => Zx w₁ fun j e w => ?_
  obtain ⟨t, rfl⟩ := r.int e
  have nf : ¬ c.fr d := W.new_fr (a.ext.gone new)
  have hD1 := (x₁ d _ hD).1 nf
  refine wpAny_Constant_bool (pairTrees_nil_walk ⟨[(j, .bool true)], ⟨intKind_is _ _ j t, rfl, trivial⟩, ⟨_, #[], 0, hD1, ⟨rfl, rfl, rfl⟩, rfl, (fun _ h => absurd h (by simp)), .nil, .nil⟩, fun h' hm sb => ?_⟩)
  have x2 : Ext c.fr s.heap h' := (x0.trans x₁).on (P := (· = d)) (fun b o n e => (sb.2 b n).trans e) fun b q => q ▸ new
  exact W.ret a k w _ { s₁ with heap := h', toks := _ } x2 (Same.mk' a.same a₁.same) ⟨d, rfl, a.ext.gone new, Hg hm (fun p hp => by rw [List.mem_singleton.mp hp]) off⟩
theorem Wm {c : Cf} {n : Nat} (W : Wf c) (h : ∀ pe, All (lowE n c.cx pe) (Ok c pe)) {pos : Pos} (ks : List (Option Expr)) (vs : List Expr) : All (lowDict (lowE n c.cx) ks vs) (OkE c (.Dict ks vs pos)) := by
  rcases ks with _ | ⟨_ | k, _ | ⟨k2, ks⟩⟩ <;> rcases vs with _ | ⟨v, _ | ⟨v2, vs⟩⟩ <;> try exact .no
  · exact .so (Gg W)
  · refine .ite fun q => .map fun k' hk => ?_
    obtain ⟨y, i, p, rfl, hy⟩ := Xq q
    cases y with
    | bool b => cases (show b = true from hy); exact Gh W (h k k' hk).ev
    | _ => exact nomatch hy
theorem ZGz {dep n : Nat} (IC : ∀ c, c.dep = dep → WfC c → Calls c) (IH : SE dep n) : SE dep (n + 1) := fun c hd W pe => by
  have h := IH c hd W
  have ve := JU pe
  show All (lowV (lowE n) c.cx (view pe)) _
  revert ve
  cases view pe with
  | name x p => intro ve; replace ve : Expr.Name x p = pe := ve; subst ve; exact (HW W x).imp fun e h => .of h rfl (fun _ _ => rfl) fun _ _ => rfl
  | const x i p => intro ve; replace ve : Expr.Constant x i p = pe := ve; subst ve; exact .map ((Wl W x).imp fun e h => .of h rfl (fun _ _ => rfl) fun _ _ => rfl)
  | unary o e p =>
    intro ve; replace ve : Expr.UnaryOp o e p = pe := ve; subst ve
    cases o with
    | Not => exact .map fun a h1 => ⟨ZCt (h e a h1), ZCu (h e a h1), fun _ _ => rfl, fun _ _ => rfl⟩
    | USub => exact (ZAg W).imp fun e h => .of h rfl (fun _ _ => rfl) fun _ _ => rfl
    | _ => exact .no
  | bin l o r p => intro ve; replace ve : Expr.BinOp l o r p = pe := ve; subst ve; exact (Ga W h o).imp fun e h => .of h rfl (fun _ _ => rfl) fun _ _ => rfl
  | bool o es p =>
    intro ve; replace ve : Expr.BoolOp o es p = pe := ve; subst ve
    cases o with
    | And => exact .map fun a h1 => ⟨ZAs W (QB h a h1), fun s K Q A w _ k => ZAt (QB h a h1) s K Q A w k, fun _ _ => rfl, fun _ _ => rfl⟩
    | Or => exact .map fun a h1 => ⟨ZGn W (QB h a h1), fun s K Q A w _ k => ZGo (QB h a h1) s K Q A w k, fun _ _ => rfl, fun _ _ => rfl⟩
  | cmp l os rs p => intro ve; replace ve : Expr.Compare l os rs p = pe := ve; subst ve; exact (Vg W h os rs).imp fun e h => ⟨h.1, h.2, fun _ _ => rfl, fun _ _ => rfl⟩
  | tuple es i p => intro ve; replace ve : Expr.Tuple es i p = pe := ve; subst ve; exact .ite fun hz => .map fun a h1 => .of (ZDx W (QB h a h1) (of_decide_eq_true hz)) rfl (fun _ _ => rfl) fun _ _ => rfl
  | list es p => intro ve; replace ve : Expr.List es p = pe := ve; subst ve; exact .ite fun hz => .map fun a h1 => .of (ZCn W (QB h a h1) (of_decide_eq_true hz)) rfl (fun _ _ => rfl) fun _ _ => rfl
  | dict ks vs p =>
    intro ve; replace ve : Expr.Dict ks vs p = pe := ve; subst ve
    exact (Wm W h ks vs).imp fun e h => .of h rfl (fun _ _ => rfl) fun _ _ => rfl
  | sub l r p => intro ve; replace ve : Expr.Subscript l r p = pe := ve; subst ve; exact (ZDn W h).imp fun e h => .of h rfl (fun _ _ => rfl) fun _ _ => rfl
  | call g args kws p => intro ve; replace ve : Expr.Call g args kws p = pe := ve; subst ve; exact (Wh W (IC c hd W.toWfC) h g args kws).imp fun e h => .of h rfl (fun _ _ => rfl) fun _ _ => rfl
  | comp e gs sc p => intro ve; replace ve : Expr.ListComp e gs sc p = pe := ve; subst ve; exact (Uq IH hd W gs).imp fun e h => .of (Gf W h) rfl (fun _ _ => rfl) fun _ _ => rfl
  | slice => exact fun _ => .no
  | attr => exact fun _ => .no
  | other => exact fun _ => .no
theorem WU {dep : Nat} (IC : ∀ c, c.dep = dep → WfC c → Calls c) (n : Nat) : SE dep n := by
  induction n with
  | zero => exact fun _ _ _ _ => .no
  | succ n ih => exact ZGz IC ih
end TC

namespace TC
open PySem PySem.W PyProof.Rows

structure Ff where
  G : Gl
  dep : Nat
  cx : Cx
  env : Env
  own : List (Str × Addr)
  s₀ : Shared
  hid0 : AP
  envs0 : List Env
  hm : Bool
  A : Around
  X : XS
  E : Value → Shared → Prop
structure Sg where
  pl : AP
  op : Nat → AP
  ρ : Rho
noncomputable abbrev Ff.h₀ (f : Ff) : Heap := f.s₀.heap
noncomputable abbrev Ff.fr0 (f : Ff) : AP := frOf f.envs0
noncomputable abbrev Ff.fr (f : Ff) : AP := frOf (f.env :: f.envs0)
noncomputable abbrev Ff.pls (f : Ff) : AP := TC.pls f.env f.own
noncomputable abbrev Ff.hid (f : Ff) (σ : Sg) : AP := fun b => σ.pl b ∨ f.pls b ∨ f.hid0 b
noncomputable abbrev Ff.wp {α : Type} (f : Ff) (m : Sem α) (Q : α → Shared → Prop) (s : Shared) : Prop := wpAny (model f.G.prog f.G.w) f.A m Q f.E s
noncomputable def NR (h : Heap) (b : Addr) : Prop := ∃ o, h.get? b = some o ∧ ∀ vs, o.data ≠ .fields vs
theorem NR.ext {fr : AP} {h h' : Heap} {b : Addr} (i : NR h b) (x : Ext fr h h') : NR h' b := by
  obtain ⟨o, e, n⟩ := i
  obtain ⟨_, q⟩ := (x b o e).2
  exact ⟨_, q, n⟩
theorem OwnAt.nr {P : AP} {h : Heap} {a : Addr} {x : PyData} (r : OwnAt P h a x) : NR h a := by
  cases x with
  | list xs => exact let ⟨_, _, e, _⟩ := r; ⟨_, e, nofun⟩
  | dict kvs => exact let ⟨_, _, e, _⟩ := r; ⟨_, e, nofun⟩
  | _ => exact r.elim
noncomputable def SlR (f : Ff) (P : AP) (h : Heap) (O : AP) (v : Value) : V → Prop
  | .d x => PR P h v x
  | .own x => ∃ a, v = .ref a ∧ O a ∧ (∀ b, O b → b = a) ∧ OwnAt P h a x
  | .brw x => PR f.fr0 f.h₀ v x
  | .exc k => ExcAt f.G.ca k h v
  | _ => False
theorem SlR.move {f : Ff} {P P' : AP} {h h' : Heap} {O : AP} {v : Value} {u : V} (r : SlR f P h O v u) (k : Mv P P' h h') (kO : ∀ a, O a → ∀ o, h.get? a = some o → h'.get? a = some o) (ke : ∀ j, ExcAt f.G.ca j h v → ExcAt f.G.ca j h' v) : SlR f P' h' O v u := by
  cases u with
  | d x => exact PR.move k r
  | own x => obtain ⟨a, e, h1, h2, r⟩ := r; exact ⟨a, e, h1, h2, r.move k (kO a h1)⟩
  | brw x => exact r
  | exc j => exact ke j r
  | _ => exact r.elim
structure StR (f : Ff) (σ : Sg) (s : Shared) : Prop where
  ext : Ext f.fr0 f.h₀ s.heap
  same : Same f.s₀ s
  fm : Fm f.env f.own s.heap
  hok : HOk f.hm f.A s.heap
  newl : ∀ b, σ.pl b → f.h₀.get? b = none
  dpl : ∀ b, σ.pl b → ¬ f.pls b ∧ Is s.heap b
  ops : ∀ i b, σ.op i b → σ.pl b ∧ NR s.heap b
  dis : ∀ i j, i ≠ j → ∀ b, σ.op i b → ¬ σ.op j b
  len : σ.ρ.length = f.cx.nx
  slots : ∀ x i, f.cx.tb.lookup x = some i → ∀ u, σ.ρ[i]? = some (some u) → ∃ v, varAt f.env s.heap x v ∧ SlR f (f.hid σ) s.heap (σ.op i) v u
structure WfF (f : Ff) : Prop where
  ok : f.G.Ok
  depth : f.A.depth + f.dep ≤ 900
  units : f.A.units + 20 * f.dep ≤ 9000
  frames : f.A.frames = some (f.env :: f.envs0)
  frame : f.env.frame = some f.env.locals
  funs0 : f.h₀.FunFrames f.G.B f.envs0
  base0 : f.G.B.StaysIn f.h₀
  sub0 : ∀ b, f.fr0 b → f.hid0 b
  dom0 : ∀ b, f.hid0 b → Is f.h₀ b
  newp : ∀ b, f.pls b → f.h₀.get? b = none
  envok : EnvOk f.G f.cx f.env
  cells : ∀ x a, f.env.cells.lookup x = some a → f.own.lookup x = some a
  inj : ∀ x y i, f.cx.tb.lookup x = some i → f.cx.tb.lookup y = some i → x = y
  bnd : ∀ x i, f.cx.var x = some i → Bindable f.env f.own x
section
variable {f : Ff} {σ : Sg} {s s' : Shared} {v : Value} {u : V}
theorem QQ (W : WfF f) {b : Addr} : f.fr b ↔ b = f.env.locals ∨ f.fr0 b := by
  show b ∈ (f.env :: f.envs0).filterMap (·.frame) ↔ _
  rw [List.filterMap_cons]; simp only [W.frame, List.mem_cons]; rfl
theorem WfF.sub (W : WfF f) (b : Addr) (h : f.fr b) : f.hid σ b := ((QQ W).mp h).elim (fun q => .inr (.inl (.inl q))) fun q => .inr (.inr (W.sub0 b q))
theorem WfF.new0 (W : WfF f) {b : Addr} (n : f.h₀.get? b = none) : ¬ f.hid0 b ∧ ¬ f.fr0 b := ⟨fun q => (W.dom0 b q).not_none n, fun q => (W.dom0 b (W.sub0 b q)).not_none n⟩
theorem StR.dom (R : StR f σ s) (W : WfF f) (b : Addr) (h : f.hid σ b) : Is s.heap b := by
  rcases h with h | h | h
  · exact (R.dpl b h).2
  · exact R.fm.is h
  · exact (W.dom0 b h).ext R.ext
theorem StR.plfr (R : StR f σ s) (W : WfF f) {b : Addr} (h : σ.pl b) : ¬ f.fr b := fun q => ((QQ W).mp q).elim (fun q => (R.dpl b h).1 (.inl q)) (W.new0 (R.newl b h)).2
theorem StR.stk (R : StR f σ s) (W : WfF f) : s.heap.FunFrames f.G.B (f.env :: f.envs0) ∧ f.G.B.StaysIn s.heap := by
  obtain ⟨m, n⟩ := R.fm.ns
  refine ⟨Heap.FunFrames.cons (by rw [W.envok.kind]; decide) W.frame n ?_ (W.funs0.of_keeps fun b o q _ => let ⟨_, y⟩ := (R.ext b o q).2; ⟨_, y, rfl⟩), fun b o e => (R.ext b o (W.base0 b o e)).1 fun q => JE e (W.funs0.mem q).1⟩
  exact VJ fun o e => JE (W.base0 _ o e) (W.newp _ (.inl rfl))
noncomputable def Ff.ec (f : Ff) (σ : Sg) (s : Shared) : Cf := { G := f.G, dep := f.dep, cx := f.cx, env := f.env, hm := f.hm, A := f.A, envs := f.env :: f.envs0, hid := f.hid σ, ρ := σ.ρ, b := s, X := (f.X · σ.ρ), E := f.E }
noncomputable abbrev Thr (f : Ff) : Prop := ∀ e s' k C fl σ, StR f σ s' → f.G.ca[k]? = some C → (fl = .none ∨ fl = rawInt f.env.locals) → Fly f.h₀ e C fl s'.heap → f.X k σ.ρ → f.E (.ref e) s'
theorem Ext.down {fr fr0 : AP} {h h' h₀ : Heap} (x : Ext fr h h') (x0 : Ext fr0 h₀ h) (n : ∀ b, fr b → ¬ fr0 b → h₀.get? b = none) : Ext fr0 h₀ h' := fun b o e => by
  obtain ⟨y1, sl, y2⟩ := x0 b o e
  obtain ⟨z1, sl', z2⟩ := x b _ y2
  exact ⟨fun hb => (x b o (y1 hb)).1 fun q => JE e (n b q hb), sl', z2⟩
theorem StR.grow (R : StR f σ s) (W : WfF f) (x : Ext f.fr s.heap s'.heap) (m : Same s s') (N : AP) (hN : ∀ b, N b → s.heap.get? b = none ∧ Is s'.heap b) : StR f { σ with pl := fun b => N b ∨ σ.pl b } s' := by
  refine ⟨x.down R.ext fun b q n => ((QQ W).mp q).elim (fun q => W.newp b (.inl q)) fun q => absurd q n, R.same.trans m, R.fm.ext x, R.hok.ext x, fun b q => q.elim (fun q => R.ext.gone (hN b q).1) (R.newl b), fun b q => ?_, fun i b q => ⟨.inr (R.ops i b q).1, (R.ops i b q).2.ext x⟩, R.dis, R.len, fun y i hy u hu => ?_⟩
  · rcases q with q | q
    · exact ⟨fun z => (R.fm.is z).not_none (hN b q).1, (hN b q).2⟩
    · exact ⟨(R.dpl b q).1, (R.dpl b q).2.ext x⟩
  · obtain ⟨v, va, r⟩ := R.slots y i hy u hu
    exact ⟨v, va.ext x, r.move (fun b o n e => ⟨fun q => q.elim (fun q => q.elim (fun q => JE e (hN b q).1) fun q => n (.inl q)) fun q => n (.inr q), (x b o e).1 fun q => n (W.sub b q)⟩) (fun a ha o e => (x a o e).1 (R.plfr W (R.ops i a ha).1)) fun j q => q.ext x⟩
theorem StR.step (R : StR f σ s) (W : WfF f) (x : Ext f.fr s.heap s'.heap) (m : Same s s') : StR f σ s' := by
  have := R.grow W x m (fun _ => False) (fun _ q => q.elim)
  simpa only [false_or] using this
theorem StR.at (R : StR f σ s) (W : WfF f) : At (f.ec σ s) s := by
  refine ⟨⟨⟨W.frames, (R.stk W).1, (R.stk W).2⟩, R.hok, R.dom W, Ext.refl _ _, Same.refl _⟩, fun x i hx u hu => ?_, fun x a e => ?_⟩
  · obtain ⟨v, va, r⟩ := R.slots x i hx u hu
    refine ⟨v, va, ?_⟩
    cases u with
    | d y => exact r
    | own y => obtain ⟨a, rfl, h1, h2, r⟩ := r; exact r.pr (R.plfr W (R.ops i a h1).1) W.sub
    | brw y =>
      refine Wu (c := f.ec σ s) ⟨⟨W.frames, (R.stk W).1, (R.stk W).2⟩, R.hok, R.dom W, Ext.refl _ _, Same.refl _⟩ (PR.move (fun b o n e => ⟨fun q => ?_, (R.ext b o e).1 n⟩) r)
      exact ((QQ W).mp q).elim (fun q => JE e (W.newp b (.inl q))) n
    | exc j => exact r
    | _ => exact r.elim
  · obtain ⟨_, o, e, _⟩ := R.fm.cell x a (W.cells x a e)
    exact ⟨o, e⟩
theorem StR.wf (R : StR f σ s) (W : WfF f) (T : Thr f) : Wf (f.ec σ s) :=
  ⟨⟨W.ok, W.depth, W.units, W.sub, R.dom W, fun e s' k h m hx => by
    obtain ⟨C, h1, h2, h3⟩ := h
    exact T e s' k C _ σ (R.step W h3 m) h1 (.inl rfl) (h2.back R.ext) hx⟩, W.envok, R.len⟩
theorem StR.put (R : StR f σ s) (W : WfF f) {x : Str} {i : Nat} (hx : f.cx.tb.lookup x = some i) {Z P : AP} (kz : ∀ b o, ¬ Z b → s.heap.get? b = some o → s'.heap.get? b = some o) (m : Same s s') (hZ : ∀ b, Z b → f.hid σ b ∧ f.h₀.get? b = none ∧ NR s.heap b) (fm : Fm f.env f.own s'.heap)
    (isZ : ∀ b, σ.pl b → Z b → Is s'.heap b ∧ NR s'.heap b) (hP : ∀ b, P b → σ.pl b ∧ NR s'.heap b) (hd : ∀ j, j ≠ i → ∀ b, P b → ¬ σ.op j b) (hO : ∀ j, j ≠ i → ∀ b, σ.op j b → ¬ Z b) (va : varAt f.env s'.heap x v) (vo : ∀ y w, y ≠ x → varAt f.env s.heap y w → varAt f.env s'.heap y w)
    (sl : SlR f (f.hid σ) s'.heap P v u) : StR f ⟨σ.pl, fun j b => (j = i ∧ P b) ∨ (j ≠ i ∧ σ.op j b), σ.ρ.set i (some u)⟩ s' := by
  have keep : ∀ b, σ.pl b → Is s'.heap b := fun b q => by
    by_cases z : Z b
    · exact (isZ b q z).1
    · obtain ⟨o, e, n⟩ := (R.dpl b q).2; exact ⟨o, kz b o z e, n⟩
  have ke : ∀ j w, ExcAt f.G.ca j s.heap w → ExcAt f.G.ca j s'.heap w := fun j w q => by
    obtain ⟨e, o, vs, C, h1, h2, h3, h4, h5, h6⟩ := q
    refine ⟨e, o, vs, C, h1, h2, kz e o (fun z => ?_) h3, h4, h5, h6⟩
    obtain ⟨o', e1, e2⟩ := (hZ e z).2.2
    rw [h3] at e1; cases e1; exact e2 vs h6
  refine ⟨R.ext.on kz fun b q => (hZ b q).2.1, R.same.trans m, fm, R.hok.at fun b hb o e => kz b o (fun z => ?_) e, R.newl, fun b q => ⟨(R.dpl b q).1, keep b q⟩, fun j b q => ?_, fun j l ne b q z => ?_, by rw [List.length_set]; exact R.len, fun y j hy w hw => ?_⟩
  · obtain ⟨o', vs, e1, e2⟩ := R.hok.rec b hb
    obtain ⟨o2, e3, e4⟩ := (hZ b z).2.2
    rw [e1] at e3; cases e3; exact e4 vs e2
  · rcases q with ⟨_, q⟩ | ⟨ne, q⟩
    · exact hP b q
    · obtain ⟨h1, o, h2, h3⟩ := R.ops j b q; exact ⟨h1, o, kz b o (hO j ne b q) h2, h3⟩
  · rcases q with ⟨rfl, q⟩ | ⟨n1, q⟩ <;> rcases z with ⟨rfl, z⟩ | ⟨n2, z⟩
    · exact ne rfl
    · exact hd l n2 b q z
    · exact hd j n1 b z q
    · exact R.dis j l ne b q z
  · by_cases q : j = i
    · subst q
      obtain rfl := W.inj y x j hy hx
      by_cases lt : j < σ.ρ.length
      · rw [List.getElem?_set_self lt] at hw
        cases hw
        have e : (fun b => (j = j ∧ P b) ∨ (j ≠ j ∧ σ.op j b)) = P := funext fun b => propext ⟨fun q => q.elim (·.2) fun q => absurd rfl q.1, fun q => .inl ⟨rfl, q⟩⟩
        exact ⟨v, va, by show SlR f (f.hid σ) s'.heap (fun b => (j = j ∧ P b) ∨ (j ≠ j ∧ σ.op j b)) v u; rw [e]; exact sl⟩
      · rw [List.set_eq_of_length_le (Nat.le_of_not_lt lt), List.getElem?_eq_none (Nat.le_of_not_lt lt)] at hw; cases hw
    · rw [List.getElem?_set_ne (Ne.symm q)] at hw
      obtain ⟨w', va', r'⟩ := R.slots y j hy w hw
      refine ⟨w', vo y w' (fun z => ?_) va', ?_⟩
      · subst z; rw [hx] at hy; cases hy; exact q rfl
      · have e : (fun b => (j = i ∧ P b) ∨ (j ≠ i ∧ σ.op j b)) = σ.op j := funext fun b => propext ⟨fun z => z.elim (fun z => absurd z.1 q) (·.2), fun z => .inr ⟨q, z⟩⟩
        show SlR f (f.hid σ) s'.heap (fun b => (j = i ∧ P b) ∨ (j ≠ i ∧ σ.op j b)) w' w
        rw [e]
        exact r'.move (fun b o n e => ⟨n, kz b o (fun z => n (hZ b z).1) e⟩) (fun a ha o e => kz a o (hO j q a ha) e) fun k => ke k w'
end
end TC

namespace TC
open PySem PySem.W PyProof.Rows

structure Adv (f : Ff) (σ : Sg) (h : Heap) (σ' : Sg) (h' : Heap) : Prop where
  keep : ∀ b o, ¬ f.fr b → ¬ f.pls b → (∀ i, ¬ σ.op i b) → h.get? b = some o → h'.get? b = some o ∧ ∀ i, ¬ σ'.op i b
  out : ∀ b o, ¬ f.hid σ b → h.get? b = some o → ¬ f.hid σ' b
  junk : ∀ b, σ.pl b → (∀ i, ¬ σ.op i b) → σ'.pl b
structure Out (f : Ff) (σ : Sg) (s : Shared) (K : KS) (Q : PySem.Flow → Shared → Prop) : Prop where
  nxt : ∀ s' σ', StR f σ' s' → Adv f σ s.heap σ' s'.heap → K .nxt σ'.ρ → Q .next s'
  ret : ∀ s' v u σ' ρ, StR f σ' s' → VR f.G.ca f.h₀ (fun b => f.pls b ∨ f.hid0 b) f.fr0 s'.heap v u → K (.ret u) ρ → Q (.ret v) s'
noncomputable abbrev ΦF (f : Ff) : Call := wpCall f.G.tab f.dep
noncomputable def OkS (f : Ff) (st : Stmt) (t : TC.S) : Prop := ∀ σ s K Q, StR f σ s → wpS (ΦF f) f.hm t σ.ρ K f.X → Out f σ s K Q → f.wp (exec st f.env) Q s
noncomputable def OkF (f : Ff) (pe : Expr) (e : TC.E) : Prop := ∀ σ s, StR f σ s → Ok (f.ec σ s) pe e
noncomputable def Sg.put (σ : Sg) (i : Nat) (P : AP) (u : V) : Sg := ⟨σ.pl, fun j b => (j = i ∧ P b) ∨ (j ≠ i ∧ σ.op j b), σ.ρ.set i (some u)⟩
noncomputable def Sg.more (σ : Sg) (N : AP) : Sg := { σ with pl := fun b => N b ∨ σ.pl b }
section
variable {f : Ff} {σ σ' σ'' : Sg} {s s₁ s' : Shared} {h h' h'' : Heap} {v : Value} {u : V} {K : KS} {Q : PySem.Flow → Shared → Prop} {x : Str} {i : Nat} {pos p : Pos}
theorem Adv.refl (f : Ff) (σ : Sg) (h : Heap) : Adv f σ h σ h := ⟨fun _ _ _ _ z e => ⟨e, z⟩, fun _ _ q _ => q, fun _ q _ => q⟩
theorem StR.adv (R : StR f σ s) (W : WfF f) (a : Adv f σ s.heap σ' h') (b : Adv f σ' h' σ'' h'') : Adv f σ s.heap σ'' h'' := by
  refine ⟨fun b' o q1 q2 q3 e => ?_, fun b' o q e => ?_, fun b' q z => ?_⟩
  · obtain ⟨e1, z1⟩ := a.keep b' o q1 q2 q3 e
    exact b.keep b' o q1 q2 z1 e1
  · exact b.out b' o (a.out b' o q e) (a.keep b' o (fun z => q (W.sub b' z)) (fun z => q (.inr (.inl z))) (fun i z => q (.inl (R.ops i b' z).1)) e).1
  · obtain ⟨n, o, e, _⟩ := R.dpl b' q
    exact b.junk b' (a.junk b' q z) (a.keep b' o (R.plfr W q) n z e).2
theorem StR.advGrow (R : StR f σ s) (x : Ext f.fr s.heap h') {N : AP} (hN : ∀ b, N b → s.heap.get? b = none) : Adv f σ s.heap (σ.more N) h' :=
  ⟨fun b o q1 _ q3 e => ⟨(x b o e).1 q1, q3⟩, fun b o q e z => q (z.elim (fun z => z.elim (fun z => JE e (hN b z)) .inl) .inr), fun b q _ => .inr q⟩
theorem StR.advStep (R : StR f σ s) (x : Ext f.fr s.heap h') : Adv f σ s.heap σ h' := ⟨fun b o q1 _ q3 e => ⟨(x b o e).1 q1, q3⟩, fun b o q e z => q z, fun b q _ => q⟩
theorem Adv.put (a : Adv f σ h σ' h') {Z P : AP} (kz : ∀ b o, ¬ Z b → h'.get? b = some o → h''.get? b = some o) (hZ : ∀ b, Z b → f.pls b ∨ σ.op i b) (hP : ∀ b, P b → h.get? b = none ∨ σ.op i b) : Adv f σ h (σ'.put i P u) h'' := by
  refine ⟨fun b o q1 q2 q3 e => ?_, a.out, a.junk⟩
  obtain ⟨e1, z1⟩ := a.keep b o q1 q2 q3 e
  exact ⟨kz b o (fun z => (hZ b z).elim q2 (q3 i)) e1, fun j z => z.elim (fun z => (hP b z.2).elim (JE e) (q3 i)) fun z => z1 j z.2⟩
theorem Out.from (o : Out f σ s K Q) (R : StR f σ s) (W : WfF f) (a : Adv f σ s.heap σ' s₁.heap) : Out f σ' s₁ K Q := ⟨fun s' σ'' R' a' k => o.nxt s' σ'' R' (R.adv W a a') k, o.ret⟩
theorem StR.store (R : StR f σ s) (W : WfF f) (hv : f.cx.var x = some i) {P : AP} (sl : SlR f (f.hid σ) s.heap P v u) (hP : ∀ b, P b → σ.pl b ∧ NR s.heap b) (hd : ∀ j, j ≠ i → ∀ b, P b → ¬ σ.op j b) {M : Model} {A : Around} {E : Value → Shared → Prop} {Q : Unit → Shared → Prop}
    (h : ∀ s', StR f (σ.put i P u) s' → (∀ b o, ¬ f.pls b → s.heap.get? b = some o → s'.heap.get? b = some o) → Q () s') : wpAny M A (storeName f.env x v) Q E s := by
  obtain ⟨v1, v2, v3⟩ := Jl hv
  refine VP R.fm (W.bnd x i hv) fun h' tk fm k a o => h { s with heap := h', toks := tk } ?_ k
  have off : ∀ b, σ.pl b → ∀ o, s.heap.get? b = some o → h'.get? b = some o := fun b q o e => k b o (R.dpl b q).1 e
  refine R.put W v2 (s' := { s with heap := h', toks := tk }) (Z := f.pls) k ⟨rfl, rfl⟩ (fun b q => ⟨.inr (.inl q), W.newp b q, ?_⟩) fm (fun b q z => absurd z (R.dpl b q).1) (fun b q => ⟨(hP b q).1, ?_⟩) hd (fun j ne b q => (R.dpl b (R.ops j b q).1).1) a o (sl.move (fun b o n e => ⟨n, k b o (fun z => n (.inr (.inl z))) e⟩) (fun b q => off b (hP b q).1) fun j q => ?_)
  · obtain ⟨o, e, _, n⟩ := R.fm.data q; exact ⟨o, e, n⟩
  · obtain ⟨o, e, n⟩ := (hP b q).2; exact ⟨o, off b (hP b q).1 o e, n⟩
  · obtain ⟨e, o, vs, C, h1, h2, h3, h4, h5, h6⟩ := q
    refine ⟨e, o, vs, C, h1, h2, k e o (fun z => ?_) h3, h4, h5, h6⟩
    obtain ⟨o', e1, _, e2⟩ := R.fm.data z
    rw [h3] at e1; cases e1; exact e2 vs h6
theorem HI (R : StR f σ s) (W : WfF f) (T : Thr f) (a : At (f.ec σ s) s₁) (r : (f.ec σ s).R s₁ v u) (o : Bool) : All (keepV o u) fun u' => ∃ N : AP, (∀ b, N b → s.heap.get? b = none ∧ Is s₁.heap b ∧ NR s₁.heap b) ∧ SlR f (f.hid (σ.more N)) s₁.heap N v u' := by
  have Wc := R.wf W T
  have plain : All ((kp u).map V.d) fun u' => ∃ N : AP, (∀ b, N b → s.heap.get? b = none ∧ Is s₁.heap b ∧ NR s₁.heap b) ∧ SlR f (f.hid (σ.more N)) s₁.heap N v u' := .map fun y e =>
    ⟨fun _ => False, fun _ q => q.elim, (Wc.keep a.toAtC r y e).anti fun b q => q.elim (fun q => .inl (q.resolve_left id)) .inr⟩
  cases o with
  | false => exact plain
  | true =>
    cases u with
    | own y =>
      refine .so ?_
      obtain ⟨z, rfl, n, q⟩ := r
      exact ⟨fun b => b = z, fun b e => e ▸ ⟨n, q.is, q.nr⟩, z, rfl, rfl, fun b e => e, q.move (fun b o n e => ⟨fun q => n (q.elim (fun q => q.elim .inl fun q => .inr (.inl q)) fun q => .inr (.inr q)), e⟩) fun o e => e⟩
    | _ => exact plain
theorem GY (R : StR f σ s) (W : WfF f) (T : Thr f) (hv : f.cx.var x = some i) {o : Bool} (a : At (f.ec σ s) s₁) (x₁ : Ext f.fr s.heap s₁.heap) (r : (f.ec σ s).R s₁ v u) (w : got (keepV o u) fun u => K .nxt (σ.ρ.set i (some u))) (out : Out f σ s K Q) : f.wp (storeName f.env x v) (fun _ => Q .next) s₁ := by
  refine Zx w fun u' e w => ?_
  obtain ⟨N, hN, sl⟩ := HI R W T a r o u' e
  exact (R.grow W x₁ a.same N fun b q => ⟨(hN b q).1, (hN b q).2.1⟩).store W hv sl (fun b q => ⟨.inl q, (hN b q).2.2⟩) (fun j _ b q z => (R.dpl b (R.ops j b z).1).2.not_none (hN b q).1) fun s' R' k =>
    out.nxt s' _ R' ((R.advGrow x₁ fun b q => (hN b q).1).put k (fun b q => .inl q) fun b q => .inl (hN b q).1) w
theorem GX (W : WfF f) (T : Thr f) {val : Expr} {e : TC.E} {o : Bool} (hv : f.cx.var x = some i) (h : OkF f val e) (hs : swapsWith val (some (.Name x p)) pos.line f.env = pure false) : OkS f (.Assign [.Name x p] val pos) (.asg o i e) := fun σ s K Q R w out =>
  wpAny_Assign_Name ((h σ s R).ev s _ _ (R.at W) w fun v s₁ u a₁ x₁ r w₁ => GY R W T hv a₁ x₁ r w₁ out) hs
theorem StR.junk (R : StR f σ s) (W : WfF f) {Z pl' : AP} (kz : ∀ b o, ¬ Z b → s.heap.get? b = some o → s'.heap.get? b = some o) (m : Same s s') (hZ : ∀ b, Z b → σ.pl b ∧ ∀ i, ¬ σ.op i b) (hH : ∀ b ∈ hAddr f.A, ¬ Z b) (hE : ∀ b, Z b → ∀ o vs C, s.heap.get? b = some o → o.cls = .ref C → o.data ≠ .fields vs)
    (sub : ∀ b, pl' b → σ.pl b ∧ (Z b → Is s'.heap b)) (ops : ∀ i b, σ.op i b → pl' b) : StR f { σ with pl := pl' } s' := by
  have pz : ∀ b, f.pls b → ¬ Z b := fun b q z => (R.dpl b (hZ b z).1).1 q
  have vk : ∀ y w, varAt f.env s.heap y w → varAt f.env s'.heap y w := fun y w va => va.imp (fun ⟨q, mm, nn, hv⟩ => ⟨q, mm, nn.at' fun o e => kz _ o (pz _ (.inl rfl)) e, hv⟩) fun ⟨q, a, ha, o, q1, q2⟩ => ⟨q, a, ha, o, kz a o (pz a (.inr ⟨y, W.cells y a ha⟩)) q1, q2⟩
  refine ⟨R.ext.on kz fun b q => R.newl b (hZ b q).1, R.same.trans m, R.fm.on fun b o q e => kz b o (pz b q) e, R.hok.at fun b hb o e => kz b o (hH b hb) e, fun b q => R.newl b (sub b q).1, fun b q => ⟨(R.dpl b (sub b q).1).1, ?_⟩, fun i b q => ⟨ops i b q, ?_⟩, R.dis, R.len, fun y i hy u hu => ?_⟩
  · by_cases z : Z b
    · exact (sub b q).2 z
    · obtain ⟨o, e, n⟩ := (R.dpl b (sub b q).1).2; exact ⟨o, kz b o z e, n⟩
  · obtain ⟨_, o, e, n⟩ := R.ops i b q; exact ⟨o, kz b o (fun z => (hZ b z).2 i q) e, n⟩
  · obtain ⟨v, va, r⟩ := R.slots y i hy u hu
    refine ⟨v, vk y v va, r.move (fun b o n e => ⟨fun q => n (q.elim (fun q => .inl (sub b q).1) .inr), kz b o (fun z => n (.inl (hZ b z).1)) e⟩) (fun b q o e => kz b o (fun z => (hZ b z).2 i q) e) fun j q => ?_⟩
    obtain ⟨e, o, vs, C, h1, h2, h3, h4, h5, h6⟩ := q
    exact ⟨e, o, vs, C, h1, h2, kz e o (fun z => hE e z o vs C h3 h4 h6) h3, h4, h5, h6⟩
end
end TC

namespace TC
open PySem PySem.W PyProof.Rows

section
variable {f : Ff} {σ : Sg} {s s₁ s' : Shared} {v : Value} {u : V} {K : KS} {Q : PySem.Flow → Shared → Prop} {x : Str} {i : Nat} {pos p : Pos}
theorem ZAz (W : WfF f) (T : Thr f) {elt : Expr} {gs : List Comprehension} {sc : Scope} {p0 : Pos} {e : TC.E} {o : Bool} (hv : f.cx.var x = some i) (hc : ∀ σ s, StR f σ s → CompOk (f.ec σ s) elt gs sc e) (hsw : swapsWith (.ListComp elt gs sc p0) (some (.Name x p)) pos.line f.env = pure true) :
    OkS f (.Assign [.Name x p] (.ListComp elt gs sc p0) pos) (.asg o i e) := fun σ s K Q R w out => by
  rw [exec_Assign_Name_used _ _ _ _ hsw]
  refine wpAny_bind (wpAny_standAt (wpAny_bind ?_))
  obtain ⟨tg, iter, ifs, xs, cx', rfl, hcc⟩ := hc σ s R
  rw [arm_evalThenUse_ListComp]
  refine wpAny_bind (hcc s _ _ _ (some (assign (.Name x p) f.env)) _ (R.at W) w fun s₁ cl D t ys x₁ h L hk => ?_)
  obtain ⟨_, ws, nn, eD, hD, rD⟩ := L.acc
  cases eD
  have nD : s.heap.get? D = none := x₁.gone (h.new (.inr (.inl rfl)))
  have nC : s.heap.get? (D + 1) = none := x₁.gone (h.new (.inr (.inr (.inl rfl))))
  have CD : D + 1 ≠ D := Nat.ne_of_gt (Nat.lt_succ_self D)
  have m : Same s t := h.A.same.trans L.m
  obtain ⟨mC, nsC⟩ := L.fm.ns
  obtain ⟨oC, eC, ntC, nrC⟩ := L.fm.data (.inl rfl)
  refine Zx hk fun u e1 hk => ?_
  have key : ∃ N : AP, (∀ b, N b → b = D) ∧ SlR f (f.hid (σ.more fun b => N b ∨ b = D + 1)) t.heap N (.ref D) u := by
    have sub : ∀ {N : AP}, (∀ b, N b → b = D) → ∀ b, f.hid (σ.more fun b => N b ∨ b = D + 1) b → Cb.nw ⟨f.ec σ s, s₁, sc, xs, cx', cl, D⟩ b ∨ f.hid σ b := fun hN b q => by
      rcases q with ((q | q) | q) | q
      · exact .inl (.inr (.inl (hN b q)))
      · exact .inl (.inr (.inr (.inl q)))
      · exact .inr (.inl q)
      · exact .inr (.inr q)
    cases o with
    | true => cases e1; exact ⟨fun b => b = D, fun b q => q, D, rfl, rfl, fun b q => q, ws, nn, hD, rD.anti (sub fun b q => q)⟩
    | false =>
      cases e1
      refine ⟨fun _ => False, fun _ q => q.elim, PR.list (fun q => ?_) hD (rD.anti (sub fun _ q => q.elim))⟩
      rcases q with ((q | q) | q) | q | q
      · exact q
      · exact CD q.symm
      · exact (R.dpl D q).2.not_none nD
      · exact (R.fm.is q).not_none nD
      · exact ((W.dom0 D q).ext R.ext).not_none nD
  obtain ⟨N, hN, sl⟩ := key
  have x2 : Ext f.fr s.heap t.heap := x₁.trans L.x
  have new : ∀ b, N b ∨ b = D + 1 → s.heap.get? b = none := fun b q => q.elim (fun q => hN b q ▸ nD) fun q => q ▸ nC
  have R1 := R.grow W x2 m (fun b => N b ∨ b = D + 1) fun b q => ⟨new b q, q.elim (fun q => hN b q ▸ ⟨_, hD, .list _ _⟩) fun q => q ▸ ⟨oC, eC, ntC⟩⟩
  have ad := R.advGrow x2 new
  show f.wp (do standAt p; bindName f.env x (.ref D)) _ t
  refine wpAny_bind (wpAny_standAt (wpAny_bindName (R1.store W hv sl (fun b q => ⟨.inl (.inl q), hN b q ▸ ⟨_, hD, nofun⟩⟩) (fun j _ b q z => (R.dpl b (R.ops j b z).1).2.not_none (new b (.inl q))) fun s2 R2 k2 => ?_)))
  have Cp : ¬ f.pls (D + 1) := (R1.dpl (D + 1) (.inl (.inr rfl))).1
  refine ⟨mC, nsC.at' fun o e => k2 _ o Cp e, fun h3 sb => wpAny_pure (wpAny_pure ?_)⟩
  have k3 : ∀ b o, ¬ b = D + 1 → s2.heap.get? b = some o → h3.get? b = some o := fun b o hb e => (sb.2 b hb).trans e
  have CN : ¬ N (D + 1) := fun q => CD (hN _ q)
  have opC : ∀ j, ¬ ((σ.more fun b => N b ∨ b = D + 1).put i N u).op j (D + 1) := fun j z => z.elim (fun z => CN z.2) fun z => (R.dpl _ (R.ops j _ z.2).1).2.not_none nC
  have opN : ∀ j b, ((σ.more fun b => N b ∨ b = D + 1).put i N u).op j b → N b ∨ σ.pl b := fun j b z => z.elim (fun z => .inl z.2) fun z => .inr (R.ops j b z.2).1
  have dC := k2 _ _ Cp eC
  refine out.nxt { s2 with heap := h3 } _ (R2.junk W (s' := { s2 with heap := h3 }) (Z := (· = D + 1)) (pl' := fun b => N b ∨ σ.pl b) k3 ⟨rfl, rfl⟩ (fun b q => ⟨.inl (.inr q), fun j z => opC j (q ▸ z)⟩) (fun b hb q => ?_) (fun b q o vs C e _ d => ?_) (fun b q => ⟨q.elim (fun q => .inl (.inl q)) .inr, fun z => ?_⟩) opN) ⟨fun b o q1 q2 q3 e => ?_, fun b o q e z => ?_, fun b q _ => .inr q⟩ hk
  · obtain ⟨o, vs, e1, e2⟩ := R2.hok.rec b hb
    rw [q, dC] at e1; cases e1; exact nrC vs e2
  · rw [q, dC] at e; cases e; exact nrC vs d
  · exact q.elim (fun q => absurd (z ▸ q) CN) fun q => (R.dpl b q).2.not_none (z ▸ nC)
  · obtain ⟨e1, z1⟩ := ad.keep b o q1 q2 q3 e
    exact ⟨k3 b o (fun z => JE (z ▸ e) nC) (k2 b o q2 e1), fun j z => z.elim (fun z => JE e (new b (.inl z.2))) fun z => q3 j z.2⟩
  · exact q (z.elim (fun z => z.elim (fun z => JE e (new b (.inl z))) .inl) .inr)
theorem ZAy {dep n : Nat} (IC : ∀ c, c.dep = dep → WfC c → Calls c) (hd : f.dep = dep) (W : WfF f) (T : Thr f) {val : Expr} (hv : f.cx.var x = some i) {o : Bool} : All (lowE n f.cx val) fun e => OkS f (.Assign [.Name x p] val pos) (.asg o i e) := fun e he => by
  have IE := WU IC n
  have hF : ∀ {m : Nat} {pe : Expr} {e : TC.E}, lowE m f.cx pe = some e → OkF f pe e := fun {m pe e} he σ s R => WU IC m (f.ec σ s) hd (R.wf W T) pe e he
  have ve := JU val
  obtain ⟨b, hb⟩ : ∃ b, swapsWith val (some (.Name x p)) pos.line f.env = pure b := by cases val <;> exact ⟨_, rfl⟩
  cases b with
  | false => exact GX W T hv (hF he) hb
  | true =>
    cases n with
    | zero => exact nomatch he
    | succ n =>
      replace he : lowV (lowE n) f.cx (view val) = some e := he
      revert ve he hb
      cases view val with
      | comp elt gs sc p0 =>
        intro ve hb he
        replace ve : Expr.ListComp elt gs sc p0 = val := ve
        subst ve
        exact ZAz W T hv (fun σ s R => Uq (WU IC n) (c := f.ec σ s) hd (R.wf W T) gs e he) hb
      | other => exact fun _ _ he => nomatch he
      | slice => exact fun _ _ he => nomatch he
      | attr => exact fun _ _ he => nomatch he
      | _ => intro ve hb _; rw [← ve] at hb; exact nomatch hb
end
end TC

namespace TC
open PySem PySem.W PyProof.Rows

section
variable {A : Around} {s : Shared} {E : Value → Shared → Prop}
theorem GJ {prog : Program} {w : World} {l : Addr} {vs : Array Value} {n : Nat} {k : Int} {t : Tok} {v : Value} {Q : Unit → Shared → Prop} (ho : s.heap.get? l = some (listObj vs n)) (h0 : 0 ≤ k) (hj : k < vs.size) (hf : k < 2 ^ 63)
    (h : ∀ h' n', h'.get? l = some (listObj (vs.setIfInBounds k.toNat v) n') → (∀ b o, b ≠ l → s.heap.get? b = some o → h'.get? b = some o) → Q () { s with heap := h' }) : wpAny (model prog w) A (setItem (.ref l) (.int k t) v) Q E s := by
  have hl : s.heap.IsList l vs := ⟨_, ho, rfl, n, rfl⟩
  unfold setItem
  try with_reducible refine wpAny_holding ?_
  first | refine wpAny_bind (wpAny_pure ?_) | skip
  refine wpAny_bind (wpAny_sequenceKey hl.typeIs (by decide) ?_)
  refine wpAny_bind (wpAny_callSpecial?_slot (name := Str.ofString "__setitem__") hl.typeIs slot_list_setitem
    (wpAny_call_entry slot_list_setitem hl.typeIs entry_list_setitem ?_ (args_list_setitem _ _ _)))
  show wpAny _ _ (Builtin.List.listSubscript? (.int k t) >>= _) _ _ s
  refine wpAny_bind (wpAny_listSubscript_int (fitsIndex_of h0 hf) ?_)
  clear hf
  obtain ⟨j, rfl⟩ := Int.eq_ofNat_of_zero_le h0
  have hj : j < vs.size := by lia
  have hx' : vs[j]? = some vs[j] := Array.getElem?_eq_getElem hj
  show wpAny _ _ ((seqItemAt l j >>= fun r => pure (r.map (j, ·))) >>= _) _ _ s
  refine wpAny_bind (wpAny_bind (wpAny_seqItemAt ho rfl (wpAny_pure ?_)))
  rw [hx']
  show wpAny _ _ (setSeqItemAt l j v >>= _) _ _ s
  obtain ⟨n', hd'⟩ := Obj.data_mapSeq (o := listObj vs n) rfl (·.setIfInBounds j v)
  have e := Heap.get?_update_self (Obj.mapSeq (·.setIfInBounds j v)) ho (Obj.isFreed_of_seq hd')
  have eo : Obj.mapSeq (·.setIfInBounds j v) (listObj vs n) = listObj (vs.setIfInBounds j v) n' := by
    unfold Obj.mapSeq at hd' ⊢
    simp only at hd' ⊢
    injection hd' with _ q
    rw [← q]
  rw [eo] at e
  have fin := h _ n' e fun b o hb e => (Heap.get?_update_other _ _ (Ne.symm hb)).trans e
  refine wpAny_bind (wpAny_setSeqItemAt ho rfl ?_)
  first
    | exact wpAny_bind (wpAny_pure (wpAny_pure ⟨.none, rfl, wpAny_pure fin⟩))
    | exact wpAny_pure ⟨.none, rfl, wpAny_pure fin⟩
end
section
variable {f : Ff} {σ : Sg} {s s₁ s' : Shared} {v : Value} {u : V} {K : KS} {Q : PySem.Flow → Shared → Prop} {x : Str} {i : Nat} {pos p : Pos}
theorem ret_VR (R : StR f σ s) (W : WfF f) (T : Thr f) (a : At (f.ec σ s) s₁) (r : (f.ec σ s).R s₁ v u) : All (retO u) (VR f.G.ca f.h₀ (fun b => f.pls b ∨ f.hid0 b) f.fr0 s₁.heap v) := by
  have Wc := R.wf W T
  have plain : All ((kp u).map V.d) (VR f.G.ca f.h₀ (fun b => f.pls b ∨ f.hid0 b) f.fr0 s₁.heap v) := .map fun y e => (Wc.keep a.toAtC r y e).anti fun b q => .inr q
  cases u with
  | own y => obtain ⟨z, e, n, r⟩ := r; exact .so ⟨z, e, R.ext.gone n, r.move (fun b o n e => ⟨fun q => n (q.imp_right .inr), e⟩) fun o e => e⟩
  | _ => exact plain
theorem WQ (W : WfF f) (T : Thr f) {val : Expr} {e : TC.E} (h : OkF f val e) : OkS f (.Return (some val) pos) (.ret e) := fun σ s K Q R w out =>
  wpAny_Return_some ((h σ s R).ev s _ _ (R.at W) w fun v s₁ u a₁ x₁ r w₁ => Zx w₁ fun u' e1 hk => out.ret s₁ v u' σ σ.ρ (R.step W x₁ a₁.same) (ret_VR R W T a₁ r u' e1) hk)
theorem Hm (W : WfF f) (hv : f.cx.var x = some i) : OkS f (.Return (some (.Name x p)) pos) (.retm i) := fun σ s K Q R w out => by
  obtain ⟨h1, h2, h3⟩ := Jl hv
  refine Zx w fun su e1 w => Zx w fun u e2 w => Zx w fun u' e3 w => ?_
  obtain ⟨v, va, r⟩ := R.slots x i h2 u (e2 ▸ e1)
  refine wpAny_Return_some (QL (c := f.ec σ s) W.envok h1 va (out.ret s v u' σ σ.ρ R ?_ w))
  have sub : ∀ b, f.pls b ∨ f.hid0 b → f.hid σ b := fun b q => .inr q
  cases u with
  | d y => cases e3; exact PR.anti r sub
  | own y =>
    cases e3
    obtain ⟨a, e, h1, h2, r⟩ := r
    exact ⟨a, e, R.newl a (R.ops i a h1).1, r.move (fun b o n e => ⟨fun q => n (q.elim (fun q => .inl (q ▸ (R.ops i a h1).1)) .inr), e⟩) fun o e => e⟩
  | brw y =>
    obtain ⟨z, e4, rfl⟩ := Option.map_eq_some_iff.mp e3
    obtain ⟨fl, rfl⟩ := JX e4
    exact XX (fun b q => R.dom W b (sub b q)) (PR.move (XL R.ext fun _ q => q) r) fl
  | exc j => exact nomatch e3
  | _ => exact r.elim
theorem Xf (W : WfF f) : interactive f.env = false := by unfold interactive; rw [W.envok.kind]; rfl
theorem Gk (W : WfF f) {g : Str} {args : List Expr} {kws : List Keyword} {e : TC.E} {p2 : Pos} (h : OkF f (.Call (.Name g p) args kws p2) e) : OkS f (.Expr (.Call (.Name g p) args kws p2) pos) (.drop e) := fun σ s K Q R w out =>
  wpAny_Expr_any ((h σ s R).ev s _ _ (R.at W) w fun v s₁ u a₁ x₁ r w₁ => out.nxt s₁ σ (R.step W x₁ a₁.same) (R.advStep x₁) w₁) (Xf W) rfl
noncomputable def OkSs (f : Ff) (sts : List Stmt) (ts : Ss) : Prop := ∀ σ s K Q, StR f σ s → wpSs (ΦF f) f.hm ts σ.ρ K f.X → Out f σ s K Q → f.wp (execs sts f.env) Q s
theorem ZEu (W : WfF f) {ls : Stmt → Option TC.S} (h : ∀ st, All (ls st) (OkS f st)) {sts : List Stmt} : All (lowSs ls sts) (OkSs f sts) := by
  induction sts with
  | nil => exact .so fun σ s K Q R w out => wpAny_execs_nil (out.nxt s σ R (Adv.refl _ _ _) w)
  | cons st sts ih => exact .bind fun a h1 => .map fun b h2 σ s K Q R w out => wpAny_execs_cons (h st a h1 σ s _ _ R w ⟨fun s' σ' R' ad w' => ih b h2 σ' s' K Q R' w' (out.from R W ad), fun s' v u σ' ρ R' r w' => out.ret s' v u σ' ρ R' r w'⟩)
theorem ZCc (W : WfF f) {t : Expr} {a b : List Stmt} {c : TC.E} {a' b' : Ss} (ht : OkF f t c) (ha : OkSs f a a') (hb : OkSs f b b') : OkS f (.If t a b pos) (.ite c a' b') := fun σ s K Q R w out =>
  wpAny_If ((ht σ s R).ts s _ _ (R.at W) w (fun u => Qm) fun b s₁ a₁ x₁ w₁ => by
    have R₁ := R.step W x₁ a₁.same
    have out₁ := out.from R W (s₁ := s₁) (R.advStep x₁)
    cases b with
    | true => exact ha σ s₁ K Q R₁ w₁ out₁
    | false => exact hb σ s₁ K Q R₁ w₁ out₁)

inductive OwnL (f : Ff) (σ : Sg) (s : Shared) (x : Str) (i : Nat) (xs : List PyData) : Prop
  | mk (a : Addr) (vs : Array Value) (m : Nat) : varAt f.env s.heap x (.ref a) → σ.op i a → (∀ b, σ.op i b → b = a) → s.heap.get? a = some (listObj vs m) → PRs (f.hid σ) s.heap vs.toList xs → OwnL f σ s x i xs
theorem VM (R : StR f σ s) (hv : f.cx.var x = some i) {k : List PyData → Prop} {P : Prop} (w : ownS σ.ρ i k) (h : ∀ xs, (∀ s', StR f σ s' → OwnL f σ s' x i xs) → k xs → P) : P := by
  refine Zx w fun su e1 w => Zx w fun u e2 w => ?_
  cases u with
  | own y =>
    refine Zx w fun xs e3 w => h xs (fun s' R' => ?_) w
    obtain ⟨v, va, a, rfl, h1, h2, r⟩ := R'.slots x i (Jl hv).2.1 _ (e2 ▸ e1)
    rw [QR y xs e3] at r
    obtain ⟨vs, m, ho, r⟩ := r
    exact ⟨a, vs, m, va, h1, h2, ho, r⟩
  | _ => exact w.elim
theorem ZGf {h : Heap} {a : Addr} {m m' : Str → Option Value} (n : h.Ns a m) (n' : h.Ns a m') : m = m' := by
  obtain ⟨o1, es1, ep1, a1, a2, _, a3⟩ := n
  obtain ⟨o2, es2, ep2, b1, b2, _, b3⟩ := n'
  rw [a1] at b1; cases b1
  rw [a2] at b2; cases b2
  exact funext fun x => (a3 x).symm.trans (b3 x)
theorem varAt.uniq {env : Env} {h : Heap} {v v' : Value} (a : varAt env h x v) (b : varAt env h x v') : v = v' := by
  rcases a with ⟨k, m, n, q⟩ | ⟨k, z, e, o, q1, q2⟩ <;> rcases b with ⟨k', m', n', q'⟩ | ⟨k', z', e', o', q1', q2'⟩
  · rw [ZGf n n'] at q; exact Option.some.inj (q.symm.trans q')
  · rcases k' with k' | k' <;> rw [k] at k' <;> cases k'
  · rcases k with k | k <;> rw [k] at k' <;> cases k'
  · rw [e] at e'; cases e'
    rw [q1] at q1'; cases q1'
    rw [q2] at q2'; cases q2'; rfl
theorem StR.mut (R : StR f σ s) (W : WfF f) (hv : f.cx.var x = some i) {a : Addr} {vs ws : Array Value} {m m' : Nat} {ys : List PyData} (va : varAt f.env s.heap x (.ref a)) (h1 : σ.op i a) (h2 : ∀ b, σ.op i b → b = a) (ho : s.heap.get? a = some (listObj vs m)) (ho' : s'.heap.get? a = some (listObj ws m'))
    (k : ∀ b o, b ≠ a → s.heap.get? b = some o → s'.heap.get? b = some o) (sm : Same s s') (r : PRs (f.hid σ) s.heap ws.toList ys) : StR f (σ.put i (σ.op i) (.own (.list ys))) s' := by
  have hpl := (R.ops i a h1).1
  have ap : ∀ b, f.pls b → b ≠ a := fun b q z => (R.dpl a hpl).1 (z ▸ q)
  have vk : ∀ y w, varAt f.env s.heap y w → varAt f.env s'.heap y w := fun y w va => va.imp (fun ⟨q, mm, nn, hv⟩ => ⟨q, mm, nn.at' fun o e => k _ o (ap _ (.inl rfl)) e, hv⟩) fun ⟨q, b, hb, o, q1, q2⟩ => ⟨q, b, hb, o, k b o (ap b (.inr ⟨y, W.cells y b hb⟩)) q1, q2⟩
  refine R.put W (Jl hv).2.1 (Z := (· = a)) k sm (fun b q => q ▸ ⟨.inl hpl, R.newl a hpl, _, ho, nofun⟩) (R.fm.on fun b o q e => k b o (ap b q) e) (fun b _ q => q ▸ ⟨⟨_, ho', .list _ _⟩, _, ho', nofun⟩) (fun b q => ⟨(R.ops i b q).1, h2 b q ▸ ⟨_, ho', nofun⟩⟩) (fun j ne b q => R.dis i j (Ne.symm ne) b q) (fun j ne b q z => R.dis j i ne b q (z ▸ h1)) (vk x _ va) (fun y w _ => vk y w)
    ⟨a, rfl, h1, h2, ws, m', ho', r.move fun b o n e => ⟨n, k b o (fun z => n (.inl (z ▸ hpl))) e⟩⟩
theorem Adv.mut (R : StR f σ s) (x₁ : Ext f.fr s.heap s₁.heap) {a : Addr} {h' : Heap} (h1 : σ.op i a) (k : ∀ b o, b ≠ a → s₁.heap.get? b = some o → h'.get? b = some o) : Adv f σ s.heap (σ.put i (σ.op i) u) h' :=
  (R.advStep x₁).put (Z := (· = a)) k (fun b q => .inr (q ▸ h1)) fun b q => .inr q
theorem ZFy (W : WfF f) {name : Str} {id : String} {arg : Expr} {e : TC.E} {apos np pos' : Pos} {Q' : V → Prop} {xs : List PyData} (hline : (apos.endLine == pos.line) = true) (hv : f.cx.var x = some i) (he : OkF f arg e) (sl : Slot "list" name id) (hty : typeOf (.builtin id) = pure (.type "method_descriptor")) (R : StR f σ s)
    (ol : ∀ s', StR f σ s' → OwnL f σ s' x i xs) (w : wpE (ΦF f) f.hm (f.X · σ.ρ) e σ.ρ Q')
    (k : ∀ a vs m v s' u, At (f.ec σ s) s' → Ext f.fr s.heap s'.heap → (f.ec σ s).R s' v u → Q' u → varAt f.env s'.heap x (.ref a) → σ.op i a → (∀ b, σ.op i b → b = a) → s'.heap.get? a = some (listObj vs m) → PRs (f.hid σ) s'.heap vs.toList xs → f.wp (call (.builtin id) [.ref a, v]) (fun _ => Q .next) s') :
    f.wp (exec (.Expr (.Call (.Attribute (.Name x np) name apos) [arg] [] pos) pos') f.env) Q s := by
  obtain ⟨h1, h2, h3⟩ := Jl hv
  obtain ⟨a, vs, m, va, o1, o2, ho, r⟩ := ol s R
  refine wpAny_Expr_any ?_ (Xf W) rfl
  have hl : s.heap.IsList a vs := ⟨_, ho, rfl, m, rfl⟩
  refine Call_method1 rfl ((he σ s R).pl _ _) hline (QL (c := f.ec σ s) W.envok h1 va ⟨"list", id, PySem.F.plainAttrs_list, sl, hty, hl.typeIs, fun b e => ?_, ?_⟩)
  · cases e; exact ⟨_, ho, rfl⟩
  · refine Calls.callWith_builtin rfl (Calls.evalArgs_plain (Calls.spliced_cons ((he σ s R).ev s _ _ (R.at W) w fun v s' u a' x' r w => Calls.spliced_nil ?_)))
    obtain ⟨b, vs', m', vb, p1, p2, hb, r'⟩ := ol s' (R.step W x' a'.same)
    cases vb.uniq (va.ext x')
    exact k a vs' m' v s' u a' x' ‹_› w vb p1 p2 hb r'
theorem ZAu (W : WfF f) (T : Thr f) {arg : Expr} {e : TC.E} {apos np pos' : Pos} (hline : (apos.endLine == pos.line) = true) (hv : f.cx.var x = some i) (he : OkF f arg e) : OkS f (.Expr (.Call (.Attribute (.Name x np) "append" apos) [arg] [] pos) pos') (.app i e) := fun σ s K Q R w out =>
  VM R hv w fun xs ol w => ZFy W hline hv he PySem.slot_list_append PySem.F.type_list_append R ol w fun a vs m v s' u a' x' r w va o1 o2 ho rs => Zx w fun y e1 w => by
    refine Va ho (by rw [rs.size]; exact Jt w.1 (by rw [sizeLine_eq]; decide)) fun h2 n2 e2 k2 => ?_
    refine out.nxt { s' with heap := h2 } _ ((R.step W x' a'.same).mut W hv (s' := { s' with heap := h2 }) va o1 o2 ho e2 k2 ⟨rfl, rfl⟩ ?_) (Adv.mut R x' o1 k2) w.2
    rw [Array.toList_push]
    exact PRs.append (.cons ((R.wf W T).keep a'.toAtC r y e1) .nil) rs
theorem PRs.set {P : AP} {h : Heap} {vs : List Value} {xs : List PyData} (r : PRs P h vs xs) {v : Value} {y : PyData} (q : PR P h v y) (j : Nat) : PRs P h (vs.set j v) (xs.set j y) :=
  PRs.of (by rw [List.length_set, List.length_set, r.length]) fun k w z e1 e2 => by
    rw [List.getElem?_set] at e1 e2
    by_cases c : j = k
    · rw [if_pos c] at e1 e2
      split at e1
      · rw [if_pos (r.length ▸ ‹_›)] at e2; cases e1; cases e2; exact q
      · cases e1
    · rw [if_neg c] at e1 e2; exact r.at k w z e1 e2
theorem ZDh (W : WfF f) (T : Thr f) {kx val : Expr} {k' v' : TC.E} {np sp : Pos} (hv : f.cx.var x = some i) (hk : OkF f kx k') (he : OkF f val v') (hs : swapsWith val (some (.Subscript (.Name x np) kx sp)) pos.line f.env = pure false) : OkS f (.Assign [.Subscript (.Name x np) kx sp] val pos) (.set i k' v') := fun σ s K Q R w out =>
  VM R hv w fun xs ol w => wpAny_Assign_Subscript ((he σ s R).ev s _ _ (R.at W) w fun v s₁ u a₁ x₁ r w₁ => by
    have R₁ := R.step W x₁ a₁.same
    obtain ⟨a, vs, m, va, o1, o2, ho, rs⟩ := ol s₁ R₁
    refine QL (c := f.ec σ s) W.envok (Jl hv).1 va ((hk σ s₁ R₁).ev s₁ _ _ (R₁.at W) w₁ fun vk s₂ uk a₂ x₂ rk w₂ => Zx w₂ fun y e1 w => Zx w fun j e2 w => ?_)
    obtain ⟨t, rfl⟩ := rk.int e2
    have R₂ := R₁.step W x₂ a₂.same
    obtain ⟨b, vs', m', vb, p1, p2, hb, rs'⟩ := ol s₂ R₂
    cases vb.uniq (va.ext x₂)
    have Wc := R.wf W T
    have A2 := Wc.go a₁ x₂ a₂.same
    have hj := w.1.2.2
    rw [Qk] at hj
    refine GJ hb w.1.1 (by rw [rs'.size]; exact w.1.2.1) (by lia) fun h3 n3 e3 k3 => ?_
    refine out.nxt { s₂ with heap := h3 } _ (R₂.mut W hv (s' := { s₂ with heap := h3 }) vb p1 p2 hb e3 k3 ⟨rfl, rfl⟩ ?_) (Adv.mut R (x₁.trans x₂) p1 k3) w.2
    rw [Array.toList_setIfInBounds]
    exact rs'.set (Wc.keep A2.toAtC (Wc.R r x₂) y e1) _) hs
theorem ZBi {prog : Program} {w : World} {A : Around} {E : Value → Shared → Prop} {l : Addr} {vs : Array Value} {n : Nat} {Q : Value → Shared → Prop} (ho : s.heap.get? l = some (listObj vs n)) (hz : vs.size ≤ sizeLine)
    (h : ∀ h' n', h'.get? l = some (listObj #[] n') → (∀ b o, b ≠ l → s.heap.get? b = some o → h'.get? b = some o) → Q .none { s with heap := h' }) : wpAny (model prog w) A (call (.builtin "list.clear") [.ref l]) Q E s := by
  refine call_meets PySem.F.slot_list_clear ⟨_, ho, rfl⟩ PySem.F.entry_list_clear (PySem.F.args_list_clear_1 _) (PySem.AutoSeq1.list_clear_list_0 l vs n hz) ⟨ho, ?_⟩
  obtain ⟨n', hd'⟩ := Obj.data_mapSeq (o := listObj vs n) rfl (fun _ => (#[] : Array Value))
  have e := Heap.get?_update_self (Obj.mapSeq fun _ => (#[] : Array Value)) ho (Obj.isFreed_of_seq hd')
  have eo : Obj.mapSeq (fun _ => (#[] : Array Value)) (listObj vs n) = listObj #[] n' := by
    unfold Obj.mapSeq at hd' ⊢
    simp only at hd' ⊢
    injection hd' with _ q
    rw [← q]
  rw [eo] at e
  exact h _ n' e fun b o hb e => (Heap.get?_update_other _ _ (Ne.symm hb)).trans e
theorem ZBj (W : WfF f) {apos np pos' : Pos} (hline : (apos.endLine == pos.line) = true) (hv : f.cx.var x = some i) : OkS f (.Expr (.Call (.Attribute (.Name x np) "clear" apos) [] [] pos) pos') (.clr i) := fun σ s K Q R w out =>
  VM R hv w fun xs ol w => by
    obtain ⟨a, vs, m, va, o1, o2, ho, r⟩ := ol s R
    have hl : s.heap.IsList a vs := ⟨_, ho, rfl, m, rfl⟩
    refine wpAny_Expr_any ?_ (Xf W) rfl
    refine Call_method0 rfl hline (QL (c := f.ec σ s) W.envok (Jl hv).1 va ⟨"list", _, PySem.F.plainAttrs_list, PySem.F.slot_list_clear, PySem.F.type_list_clear, hl.typeIs, fun b e => ?_, ?_⟩)
    · cases e; exact ⟨_, ho, rfl⟩
    refine Calls.callWith_builtin rfl (PySem.evalArgs_none (ZBi ho (by rw [r.size]; exact Jt w.1 (by rw [sizeLine_eq]; decide)) fun h2 n2 e3 k2 => ?_))
    exact out.nxt { s with heap := h2 } _ (R.mut W hv (s' := { s with heap := h2 }) (ys := []) va o1 o2 ho e3 k2 ⟨rfl, rfl⟩ .nil) (Adv.mut R (Ext.refl _ _) o1 k2) w.2
end
end TC

namespace TC
open PySem PySem.W PyProof.Rows

structure Sk (B : Heap) (A : Around) (h : Heap) (envs : List Env) : Prop where
  frames : A.frames = some envs
  funs : h.FunFrames B envs
section
variable {B : Heap} {A : Around} {E : Value → Shared → Prop} {s : Shared} {fr : AP} {outer : List Env} {env : Env} {L e C : Addr} {h₀ : Heap} {fl : Value} {M : Model}
theorem Sk.slots {envs : List Env} {h h' : Heap} (k : Heap.SlotsOnly (envs.filterMap (·.frame)) h h') : Ext (frOf envs) h h' := fun b o q => ⟨fun hb => (k.2.1 b hb).trans q, let ⟨sl, z⟩ := k.2.2 b o q; ⟨sl, z⟩⟩
theorem Sk.notFields {envs : List Env} {h : Heap} (S : Sk B A h envs) {b : Addr} {o : Obj} {vs : Array Value} (q : h.get? b = some o) (d : o.data = .fields vs) : ¬ frOf envs b := fun hb => by
  obtain ⟨_, o', ho, hnf⟩ := S.funs.mem hb
  rw [q] at ho; cases ho; exact hnf vs d
noncomputable def Nt (fr : AP) (h h' : Heap) : Prop := ∀ b o, h.get? b = some o → ((∀ vs, o.data ≠ .fields vs) → (¬ fr b → h'.get? b = some o) ∧ ∃ sl, h'.get? b = some { o with slots := sl }) ∧
  ∀ vs, o.data = .fields vs → ∃ o' vs', h'.get? b = some o' ∧ o'.cls = o.cls ∧ o'.dict = o.dict ∧ o'.data = .fields vs' ∧ vs'[2]? = vs[2]?
theorem Nt.refl (fr : AP) (h : Heap) : Nt fr h h := fun b o e => ⟨fun _ => ⟨fun _ => e, o.slots, e⟩, fun vs d => ⟨o, vs, e, rfl, rfl, d, rfl⟩⟩
theorem Nt.trans {fr : AP} {h₁ h₂ h₃ : Heap} (x : Nt fr h₁ h₂) (y : Nt fr h₂ h₃) : Nt fr h₁ h₃ := fun b o e => by
  refine ⟨fun nf => ?_, fun vs d => ?_⟩
  · obtain ⟨x1, sl, x2⟩ := (x b o e).1 nf
    obtain ⟨y1, sl', y2⟩ := (y b _ x2).1 nf
    exact ⟨fun hb => ((y b o (x1 hb)).1 nf).1 hb, sl', y2⟩
  · obtain ⟨o1, vs1, e1, c1, d1, f1, g1⟩ := (x b o e).2 vs d
    obtain ⟨o2, vs2, e2, c2, d2, f2, g2⟩ := (y b o1 e1).2 vs1 f1
    exact ⟨o2, vs2, e2, c2.trans c1, d2.trans d1, f2, g2.trans g1⟩
theorem Nt.ext {fr : AP} {h h' : Heap} (x : Ext fr h h') : Nt fr h h' := fun b o e => ⟨fun _ => ⟨(x b o e).1, (x b o e).2⟩, fun vs d => let ⟨sl, q⟩ := (x b o e).2; ⟨_, vs, q, rfl, rfl, d, rfl⟩⟩
theorem Nt.field {fr : AP} {h : Heap} {e : Addr} {oe : Obj} {vs : Array Value} {k : Nat} {w : Value} (he : h.get? e = some oe) (hd : oe.data = .fields vs) (hk : k ≠ 2) : Nt fr h (h.update e (Obj.mapFields (·.setIfInBounds k w))) := fun b o q => by
  by_cases z : b = e
  · subst z
    rw [he] at q; cases q
    refine ⟨fun nf => absurd hd (nf vs), fun vs' d => ?_⟩
    rw [hd] at d; cases d
    have hd₃ := Obj.data_mapFields hd (·.setIfInBounds k w)
    refine ⟨_, _, Heap.get?_update_self _ he (Obj.isFreed_of_fields hd₃), Obj.cls_mapFields _ _, ?_, hd₃, by rw [Array.getElem?_setIfInBounds_ne hk]⟩
    unfold Obj.mapFields; split <;> rfl
  · have e1 := (Heap.get?_update_other h (Obj.mapFields (·.setIfInBounds k w)) (Ne.symm z)).trans q
    exact ⟨fun _ => ⟨fun _ => e1, o.slots, e1⟩, fun vs d => ⟨o, vs, e1, rfl, rfl, d, rfl⟩⟩

theorem Uv {oe : Obj} {vs : Array Value} {head : Value} {hadNext : Bool} {Q : Unit → Shared → Prop} (S : Sk B A s.heap (env :: outer)) (hfr : frOf (env :: outer) = fr) (hf : env.frame = some L) (x : Ext fr h₀ s.heap) (n : h₀.get? e = none)
    (he : s.heap.get? e = some oe) (hc : oe.cls = .ref C) (hdi : oe.dict = none) (hd : oe.data = .fields vs) (hsz : 1 < vs.size) (h2 : vs[2]? = some .none) (h : ∀ h', Ext fr h₀ h' → Fly h₀ e C (rawInt L) h' → Nt fr s.heap h' → Q () { s with heap := h' }) :
    wpAny M A (do let a ← frameOf env; let pl ← entryPlaceOf L hadNext; let b ← EntryCells.newEntry head a .none (rawInt L) .none pl; setField (.ref e) 1 b) Q E s := by
  refine wpAny_bind (wpAny_frameOf_fun S.frames S.funs hf fun h₁ hs₁ => ?_)
  have X1 : Ext fr s.heap h₁ := hfr ▸ Sk.slots hs₁
  refine wpAny_bind (wpAny_entryPlaceOf fun pl hpl => ?_)
  unfold EntryCells.newEntry newFields
  refine wpAny_bind (wpAny_newObj_type ?_ (hpl.sizeOk5 _ _ _ _ _))
  have he₁ : h₁.get? e = some oe := (X1 e oe he).1 (hfr ▸ S.notFields he hd)
  have he₂ := Heap.get?_push_of_some (h := h₁) { cls := .type "traceback", dict := none, data := .fields ([head, .ref L, .none, rawInt L, .none] ++ (if pl.isEmpty then List.replicate 6 Value.none else pl)).toArray } he₁
  refine wpAny_setField he₂ hd hsz (h _ ?_ ?_ (((Nt.ext X1).trans (Nt.ext (Ext.of (JQ _ _)))).trans (Nt.field he₂ hd (by decide))))
  · intro b o q
    have hbe : b ≠ e := fun z => by rw [z, n] at q; cases q
    have go : ∀ o', h₁.get? b = some o' → ((h₁.push { cls := .type "traceback", dict := none, data := .fields ([head, .ref L, .none, rawInt L, .none] ++ (if pl.isEmpty then List.replicate 6 Value.none else pl)).toArray }).update e (Obj.mapFields (·.setIfInBounds 1 (Value.ref h₁.objs.size)))).get? b = some o' := fun o' z => by
      rw [Heap.get?_update_other _ _ (Ne.symm hbe)]
      exact Heap.get?_push_of_some _ z
    obtain ⟨y1, sl, y2⟩ := (x.trans X1) b o q
    exact ⟨fun hb => go _ (y1 hb), sl, go _ y2⟩
  · have hTe : h₁.objs.size ≠ e := Nat.ne_of_gt (Heap.lt_size he₁)
    have hd₃ := Obj.data_mapFields hd (·.setIfInBounds 1 (Value.ref h₁.objs.size))
    have he₃ := Heap.get?_update_self (Obj.mapFields (·.setIfInBounds 1 (Value.ref h₁.objs.size))) he₂ (Obj.isFreed_of_fields hd₃)
    have hT₃ := (Heap.get?_update_other (h₁.push { cls := .type "traceback", dict := none, data := .fields ([head, .ref L, .none, rawInt L, .none] ++ (if pl.isEmpty then List.replicate 6 Value.none else pl)).toArray })
      (Obj.mapFields (·.setIfInBounds 1 (Value.ref h₁.objs.size))) (Ne.symm hTe)).trans (Heap.get?_push_size h₁ rfl)
    refine ⟨_, _, n, he₃, (Obj.cls_mapFields _ _).trans hc, ?_, hd₃, by rw [Array.getElem?_setIfInBounds_ne (by decide)]; exact h2, .at h₁.objs.size _ _ (by simp [hsz]) ((x.trans X1).gone (JW h₁)) hTe hT₃ rfl (by first | (simp; done) | (rcases hpl with rfl | ⟨_, _, _, _, _, _, _, rfl⟩ <;> simp))⟩
    · unfold Obj.mapFields; split <;> exact hdi

theorem ZGe {Q : Unit → Shared → Prop} (S : Sk B A s.heap (env :: outer)) (hfr : frOf (env :: outer) = fr) (hf : env.frame = some L) (x : Ext fr h₀ s.heap) (F : Fly h₀ e C .none s.heap) (h : ∀ h', Ext fr h₀ h' → Fly h₀ e C (rawInt L) h' → Nt fr s.heap h' → Q () { s with heap := h' }) :
    wpAny M A (noteFrame (.ref e) env) Q E s := by
  obtain ⟨oe, vs, n, he, hc, hdi, hd, h2, F⟩ := F
  have hsz : 1 < vs.size := Nat.lt_of_succ_lt (Array.getElem?_eq_some_iff.mp h2).1
  unfold noteFrame
  simp only [hf]
  rcases F with ⟨_, h1⟩ | ⟨T, oT, ts, h1, hnT, hTe, hT, hdT, h3⟩
  · refine wpAny_bind (wpAny_field he hd h1 ?_)
    rw [if_neg (by decide)]
    exact Uv S hfr hf x n he hc hdi hd hsz h2 h
  · refine wpAny_bind (wpAny_field he hd h1 ?_)
    rw [if_pos (show (Value.ref T != Value.none) = true from by simp)]
    refine wpAny_bind (wpAny_field hT hdT h3 ?_)
    rw [if_neg (show ¬ ((Value.none == rawInt L) = true) from by simp [rawInt])]
    refine wpAny_bind (wpAny_setField hT hdT (Array.getElem?_eq_some_iff.mp h3).1 ?_)
    have other : ∀ b, b ≠ T → (s.heap.update T (Obj.mapFields (·.setIfInBounds 3 Value.none))).get? b = s.heap.get? b := fun b hb => Heap.get?_update_other _ _ (Ne.symm hb)
    have X : Ext fr h₀ (s.heap.update T (Obj.mapFields (·.setIfInBounds 3 Value.none))) := fun b o q => by
      have hb : b ≠ T := fun z => by rw [z, hnT] at q; cases q
      rw [other b hb]
      exact x b o q
    have S' : Sk B A (s.heap.update T (Obj.mapFields (·.setIfInBounds 3 Value.none))) (env :: outer) :=
      ⟨S.frames, S.funs.of_keeps fun b o q hnf => ⟨o, (other b fun z => by rw [z, hT] at q; cases q; exact hnf ts hdT).trans q, rfl⟩⟩
    exact Uv (s := { s with heap := s.heap.update T (Obj.mapFields (·.setIfInBounds 3 Value.none)) }) S' hfr hf X n ((other e (Ne.symm hTe)).trans he) hc hdi hd hsz h2 fun h' x1 x2 x3 => h h' x1 x2 ((Nt.field hT hdT (by decide)).trans x3)

theorem GA {Q : Unit → Shared → Prop} (hf : env.frame = some L) (F : Fly h₀ e C (rawInt L) s.heap) (h : Q () s) : wpAny M A (noteFrame (.ref e) env) Q E s := by
  obtain ⟨oe, vs, n, he, hc, hdi, hd, h2, ⟨q, _⟩ | ⟨T, oT, ts, h1, hnT, hTe, hT, hdT, h3⟩⟩ := F
  · cases q
  · exact wpAny_noteFrame_inFlight hf he hd h1 hT hdT h3 h
theorem Qt {Q : Unit → Shared → Prop} {fo : Option Addr} (x : Ext fr h₀ s.heap) (F : Fly h₀ e C fl s.heap) (hf : fl = .none → fo = none) (h : ∀ h', Ext fr h₀ h' → Fly h₀ e C (fo.elim .none fun f => rawInt f) h' → Nt fr s.heap h' → Q () { s with heap := h' }) : wpAny M A (setFlight (.ref e) fo) Q E s := by
  obtain ⟨oe, vs, n, he, hc, hdi, hd, h2, F⟩ := F
  rcases F with ⟨z, h1⟩ | ⟨T, oT, ts, h1, hnT, hTe, hT, hdT, h3⟩
  · have := hf z; subst this
    unfold setFlight
    refine wpAny_bind (wpAny_field he hd h1 ?_)
    rw [if_neg (by decide)]
    exact wpAny_pure (h s.heap x ⟨oe, vs, n, he, hc, hdi, hd, h2, .no rfl h1⟩ (Nt.refl _ _))
  · have hsz : 3 < ts.size := (Array.getElem?_eq_some_iff.mp h3).1
    unfold setFlight
    refine wpAny_bind (wpAny_field he hd h1 ?_)
    rw [if_pos (show (Value.ref T != Value.none) = true from by simp)]
    refine wpAny_setField hT hdT hsz (h _ (fun b o q => ?_) ⟨oe, vs, n, (Heap.get?_update_other _ _ hTe).trans he, hc, hdi, hd, h2, .at T _ _ h1 hnT hTe (Heap.get?_update_self _ hT (Obj.isFreed_of_fields (Obj.data_mapFields hdT _))) (Obj.data_mapFields hdT _) (by simp [hsz])⟩ (Nt.field hT hdT (by decide)))
    have hb : b ≠ T := fun z => by rw [z, hnT] at q; cases q
    rw [Heap.get?_update_other _ _ (Ne.symm hb)]
    exact x b o q
theorem VK {Q : Unit → Shared → Prop} (S : Sk B A s.heap (env :: outer)) (hfr : frOf (env :: outer) = fr) (hf : env.frame = some L) (x : Ext fr h₀ s.heap) (hl : fl = .none ∨ fl = rawInt L) (F : Fly h₀ e C fl s.heap) (h : ∀ h', Ext fr h₀ h' → Fly h₀ e C (rawInt L) h' → Nt fr s.heap h' → Q () { s with heap := h' }) :
    wpAny M A (noteFrame (.ref e) env) Q E s := by
  rcases hl with rfl | rfl
  · exact ZGe S hfr hf x F h
  · exact GA hf F (h s.heap x F (Nt.refl _ _))
theorem ZEz {Q : Unit → Shared → Prop} (hf : env.frame = some L) (x : Ext fr h₀ s.heap) (F : Fly h₀ e C (rawInt L) s.heap) (h : ∀ h', Ext fr h₀ h' → Fly h₀ e C (rawInt L) h' → Nt fr s.heap h' → Q () { s with heap := h' }) :
    wpAny M A (do
      if (← field (.ref e) 1) == .none then unsupported "frame.own-activation:exception-without-traceback"
      setFlight (.ref e) env.frame) Q E s := by
  have F' := F
  obtain ⟨oe, vs, n, he, hc, hdi, hd, h2, ⟨z, h1⟩ | ⟨T, oT, ts, h1, hnT, hTe, hT, hdT, h3⟩⟩ := F
  · cases z
  · refine wpAny_bind (wpAny_field he hd h1 ?_)
    rw [if_neg (by simp)]
    rw [hf]
    exact Qt x F' (fun q => by cases q) h
theorem ZCe {Q : Unit → Shared → Prop} (S : Sk B A s.heap (env :: outer)) (hfr : frOf (env :: outer) = fr) (hf : env.frame = some L) (x : Ext fr h₀ s.heap) (hl : fl = .none ∨ fl = rawInt L) (F : Fly h₀ e C fl s.heap) (h : ∀ h', Ext fr h₀ h' → Fly h₀ e C .none h' → Q () { s with heap := h' }) :
    wpAny M A (leaving env (.ref e)) Q E s := by
  unfold leaving
  exact wpAny_bind (VK S hfr hf x hl F fun h' x' F' _ => Qt (fo := none) (s := { s with heap := h' }) x' F' (fun _ => rfl) fun h'' x'' F'' _ => h h'' x'' F'')

theorem ZCo {h h' : Heap} {args : List Value} (m : Heap.MadeExcOf h h' e (.ref C) args) : Fly h e C .none h' ∧ Ext fr h h' := by
  obtain ⟨k, n, t, h1, h2, h3⟩ := m
  exact ⟨⟨_, _, n, h1, rfl, rfl, rfl, rfl, .no rfl rfl⟩, Ext.of k⟩

end
section
variable {f : Ff} {σ : Sg} {s s' : Shared} {e C : Addr} {fl : Value}
theorem Nt.pr {P fr : AP} {h h' : Heap} (x : Nt fr h h') (sub : ∀ b, fr b → P b) {v : Value} {y : PyData} (r : PR P h v y) : PR P h' v y :=
  PR.rec (motive_1 := fun v x _ => PR P h' v x) (motive_2 := fun vs xs _ => PRs P h' vs xs) .non .bool .int .str
    (fun n e _ r => .list n (((x _ _ e).1 nofun).1 fun q => n (sub _ q)) r) (fun n e _ r => .tuple n (((x _ _ e).1 nofun).1 fun q => n (sub _ q)) r) (fun n e _ _ d r q => .dict n (((x _ _ e).1 nofun).1 fun q => n (sub _ q)) r q d) .nil (fun _ _ a b => .cons a b) r
theorem Nt.prs {P fr : AP} {h h' : Heap} (x : Nt fr h h') (sub : ∀ b, fr b → P b) {vs : List Value} {xs : List PyData} (r : PRs P h vs xs) : PRs P h' vs xs :=
  PRs.of r.length.symm.symm (fun k v y e1 e2 => x.pr sub (r.at k v y e1 e2))
theorem Nt.is {fr : AP} {h h' : Heap} (x : Nt fr h h') {b : Addr} (i : Is h b) : Is h' b := by
  obtain ⟨o, e, n⟩ := i
  by_cases q : ∀ vs, o.data ≠ .fields vs
  · obtain ⟨_, sl, e'⟩ := (x b o e).1 q
    exact ⟨_, e', n⟩
  · obtain ⟨vs, q⟩ := Classical.not_forall.mp q
    obtain ⟨o', vs', e', _, _, d, _⟩ := (x b o e).2 vs (Classical.not_not.mp q)
    exact ⟨o', e', .of d⟩
theorem Nt.nr {fr : AP} {h h' : Heap} (x : Nt fr h h') {b : Addr} (i : NR h b) : NR h' b := by
  obtain ⟨o, e, n⟩ := i
  obtain ⟨_, sl, e'⟩ := (x b o e).1 n
  exact ⟨_, e', n⟩
theorem StR.noted (R : StR f σ s) (W : WfF f) (x0 : Ext f.fr f.h₀ s'.heap) (m : Same s s') (x : Nt f.fr s.heap s'.heap) : StR f σ s' := by
  have ns : ∀ {a : Addr} {m : Str → Option Value}, s.heap.Ns a m → s'.heap.Ns a m := fun n => by
    obtain ⟨o, es, ep, ho, hd, r⟩ := n
    obtain ⟨_, sl, e'⟩ := (x _ o ho).1 fun vs q => by rw [hd] at q; cases q
    exact ⟨_, es, ep, e', hd, r⟩
  have cell : ∀ {a : Addr} {v : Option Value}, s.heap.IsCell a v → s'.heap.IsCell a v := fun n => by
    obtain ⟨o, ho, hd⟩ := n
    obtain ⟨_, sl, e'⟩ := (x _ o ho).1 fun vs q => by rw [hd] at q; cases q
    exact ⟨_, e', hd⟩
  obtain ⟨mm, nn⟩ := R.fm.ns
  refine ⟨x0.down (Ext.refl _ _) (fun b q n => ((QQ W).mp q).elim (fun q => W.newp b (.inl q)) fun q => absurd q n), R.same.trans m, ⟨R.fm.kf, ⟨mm, ns nn⟩, fun y a e => let ⟨w, z⟩ := R.fm.cell y a e; ⟨w, cell z⟩, R.fm.look, R.fm.inj⟩, ?_, R.newl, fun b q => ⟨(R.dpl b q).1, x.is (R.dpl b q).2⟩, fun i b q => ⟨(R.ops i b q).1, x.nr (R.ops i b q).2⟩, R.dis, R.len, fun y i hy u hu => ?_⟩
  · rcases R.hok with q | ⟨q, a, e1, o, vs, q1, q2, q3⟩
    · exact .inl q
    · obtain ⟨o', vs', p1, _, _, p4, p5⟩ := (x a o q1).2 vs q2
      exact .inr ⟨q, a, e1, o', vs', p1, p4, p5.trans q3⟩
  · obtain ⟨v, va, r⟩ := R.slots y i hy u hu
    refine ⟨v, va.imp (fun ⟨q, m, n, hv⟩ => ⟨q, m, ns n, hv⟩) fun ⟨q, b, hb, z⟩ => ⟨q, b, hb, cell z⟩, ?_⟩
    cases u with
    | d y => exact x.pr W.sub r
    | own y =>
      obtain ⟨a, e, h1, h2, r⟩ := r
      have af := R.plfr W (R.ops i a h1).1
      refine ⟨a, e, h1, h2, ?_⟩
      cases y with
      | list xs => obtain ⟨vs, n, e, q⟩ := r; exact ⟨vs, n, ((x a _ e).1 nofun).1 af, x.prs W.sub q⟩
      | dict kvs => obtain ⟨vs, n, e, q1, q2, q3⟩ := r; exact ⟨vs, n, ((x a _ e).1 nofun).1 af, x.prs W.sub q1, x.prs W.sub q2, q3⟩
      | _ => exact r.elim
    | brw y => exact r
    | exc j =>
      obtain ⟨a, o, vs, C, h1, h2, h3, h4, h5, h6⟩ := r
      obtain ⟨o', vs', p1, p2, p3, p4, p5⟩ := (x a o h3).2 vs h6
      exact ⟨a, o', vs', C, h1, h2, p1, p2.trans h4, p3.trans h5, p4⟩
    | _ => exact r.elim
theorem StR.sk (R : StR f σ s) (W : WfF f) : Sk f.G.B f.A s.heap (f.env :: f.envs0) := ⟨W.frames, (R.stk W).1⟩
theorem StR.extF (R : StR f σ s) (W : WfF f) : Ext f.fr f.h₀ s.heap := R.ext.mono fun b q => (QQ W).mpr (.inr q)
theorem loopExc (W : WfF f) (T : Thr f) {k : Nat} (R : StR f σ s) (hC : f.G.ca[k]? = some C) (hl : fl = .none ∨ fl = rawInt f.env.locals) (F : Fly f.h₀ e C fl s.heap) (hx : f.X k σ.ρ) : notedBy (model f.G.prog f.G.w) f.A f.env (fun e s' => cameBackBy (model f.G.prog f.G.w) f.A f.env f.E e s') (.ref e) s := by
  unfold notedBy
  refine VK (R.sk W) rfl W.frame (R.extF W) hl F fun h1 x1 F1 n1 => ?_
  unfold cameBackBy
  refine ZEz (s := { s with heap := h1 }) W.frame x1 F1 fun h2 x2 F2 n2 => ?_
  exact T e { s with heap := h2 } k C _ σ (R.noted W (s' := { s with heap := h2 }) x2 ⟨rfl, rfl⟩ (n1.trans n2)) hC (.inr rfl) F2 hx
end
end TC

namespace TC
open PySem PySem.W PyProof.Rows

noncomputable def Kp (P : AP) (h : Heap) (v : Value) (u : V) : Prop := ∀ x, kp u = some x → PR P h v x
theorem ZAh {cx : Cx} {env : Env} {es : List Expr} : All (lowVars cx es) fun is => assignEach es env = es.map (fun e => (false, assign e env)) ∧ is.length = es.length := by
  induction es with
  | nil => exact .so ⟨rfl, rfl⟩
  | cons e es ih =>
    refine .bind fun x h1 => .bind fun i _ => .map fun is h2 => ?_
    obtain ⟨p, rfl⟩ := Jo e x h1
    exact ⟨congrArg ((false, assign (.Name x p) env) :: ·) (ih is h2).1, congrArg Nat.succ (ih is h2).2⟩
theorem Vh {α : Type} (es : List Expr) (g : Expr → α) : (es.map fun e => (false, g e)).findIdx? (·.1) = none := by
  induction es with
  | nil => rfl
  | cons p l ih => rw [List.map_cons, List.findIdx?_cons, ih]; rfl
section
variable {f : Ff} {σ σ' σ₁ : Sg} {s s₁ s' : Shared} {h' : Heap} {v : Value} {u : V} {K : KS} {Q : PySem.Flow → Shared → Prop} {x : Str} {i : Nat} {pos p : Pos}
theorem StR.kp (R : StR f σ s) (W : WfF f) (T : Thr f) (a : At (f.ec σ s) s₁) (r : (f.ec σ s).R s₁ v u) : Kp (f.hid σ) s₁.heap v u := fun x e => (R.wf W T).keep a.toAtC r x e
theorem StR.mv (R : StR f σ s) (W : WfF f) (a : Adv f σ s.heap σ' h') : Mv (f.hid σ) (f.hid σ') s.heap h' := fun b o n e =>
  ⟨a.out b o n e, (a.keep b o (fun z => n (W.sub b z)) (fun z => n (.inr (.inl z))) (fun i z => n (.inl (R.ops i b z).1)) e).1⟩
theorem Kp.move {P P' : AP} {h h' : Heap} (r : Kp P h v u) (k : Mv P P' h h') : Kp P' h' v u := fun x e => PR.move k (r x e)
theorem StR.storeD (R : StR f σ s) (W : WfF f) (hv : f.cx.var x = some i) {y : PyData} (r : PR (f.hid σ) s.heap v y) {M : Model} {A : Around} {E : Value → Shared → Prop} {Q : Unit → Shared → Prop}
    (h : ∀ s', StR f (σ.put i (fun _ => False) (.d y)) s' → Adv f σ s.heap (σ.put i (fun _ => False) (.d y)) s'.heap → Q () s') : wpAny M A (storeName f.env x v) Q E s :=
  R.store W hv (P := fun _ => False) (u := .d y) r (fun _ q => q.elim) (fun _ _ _ q => q.elim) fun s' R' k => h s' R' ((Adv.refl f σ s.heap).put k (fun b q => .inl q) fun _ q => q.elim)
theorem Hw (W : WfF f) {M : Model} {A : Around} {E : Value → Shared → Prop} {Q : Unit → Shared → Prop} {k : Rho → Prop} {es : List Expr} : ∀ {is : List Nat} {us : List V} {vs : List Value} {σ : Sg} {s : Shared}, lowVars f.cx es = some is → StR f σ s → Rs (Kp (f.hid σ) s.heap) vs us → setAll σ.ρ k is us →
    (∀ s' σ', StR f σ' s' → Adv f σ s.heap σ' s'.heap → k σ'.ρ → Q () s') → wpAny M A (assignInOrder (es.map fun e => assign e f.env) vs) Q E s := by
  induction es with
  | nil =>
    intro is us vs σ s e R r w h
    cases e
    cases r with
    | nil => exact wpAny_pure (h s σ R (Adv.refl _ _ _) w)
    | cons => exact w.elim
  | cons e es ih =>
    intro is us vs σ s he R r w h
    suffices key : All (lowVars f.cx (e :: es)) fun is => setAll σ.ρ k is us → wpAny M A (assignInOrder ((e :: es).map fun e => assign e f.env) vs) Q E s from key is he w
    refine .bind fun x h1 => .bind fun i h2 => .map fun is h3 w => ?_
    obtain ⟨p, rfl⟩ := Jo e x h1
    cases r with
    | nil => exact w.elim
    | cons a b =>
      refine Zx w fun y e1 w => ?_
      refine wpAny_bind (wpAny_holding (wpAny_bind (wpAny_standAt (wpAny_bindName (R.storeD W h2 (a y e1) fun s' R' a' => ?_)))))
      exact ih h3 R' (b.imp fun v u q => q.move (R.mv W a')) w fun s2 σ2 R2 a2 hk => h s2 σ2 R2 (R.adv W a' a2) hk
theorem Xy (W : WfF f) (R : StR f σ s) {es : List Expr} {is : List Nat} (lv : lowVars f.cx es = some is) {t : Addr} {items : Array Value} {m n : Nat} {us : List V} (ho : s.heap.get? t = some (tupObj items m)) (r : Rs (Kp (f.hid σ) s.heap) items.toList us) (hl : us.length = is.length)
    {k : Rho → Prop} (w : setAll σ.ρ k is us) {E : Value → Shared → Prop} {Q : Unit → Shared → Prop} (h : ∀ s' σ', StR f σ' s' → Adv f σ s.heap σ' s'.heap → k σ'.ρ → Q () s') : wpAny (model f.G.prog f.G.w) f.A (assign (.Tuple es n p) f.env (.ref t)) Q E s := by
  obtain ⟨h1, h2⟩ := ZAh (env := f.env) is lv
  rw [arm_assign_Tuple, h1]
  have l3 : (es.map fun e => (false, assign e f.env)).length = items.size := by
    rw [List.length_map, ← h2, ← hl, ← r.length, Array.length_toList]
  refine wpAny_bind (wpAny_standAt (UF R.hok ho l3 (Vh _ _) fun h2 k2 => ?_))
  rw [List.map_map]
  have x2 : Ext f.fr s.heap h2 := Ext.of k2
  have R2 := R.step W (s' := { s with heap := h2 }) x2 ⟨rfl, rfl⟩
  exact Hw W lv R2 (r.imp fun v u q => q.move fun b o n e => ⟨n, k2 b o e⟩) w fun s' σ' R' a' hk => h s' σ' R' (R.adv W (R.advStep x2) a') hk
theorem ZDz (W : WfF f) (T : Thr f) {ts : List Expr} {n : Nat} {tp : Pos} {val : Expr} {is : List Nat} {e : TC.E} (lv : lowVars f.cx ts = some is) (he : OkF f val e) (hs : swapsWithSole [.Tuple ts n tp] val pos.line f.env = pure false) (hw : swappedStores [.Tuple ts n tp] val f.env = pure none) : OkS f (.Assign [.Tuple ts n tp] val pos) (.unp is e) := fun σ s K Q R w out =>
  wpAny_Assign_stores ((he σ s R).ev s _ _ (R.at W) w fun v s₁ u a₁ x₁ r w₁ => Zx w₁ fun us e1 w => by
    obtain ⟨t, items, m, rfl, ho, nf, rs⟩ := VN (R.wf W T).toWfC a₁.toAtC r is.length us e1
    show f.wp (assign (.Tuple ts n tp) f.env (.ref t)) _ s₁
    exact Xy W (R.step W x₁ a₁.same) lv ho (rs.imp fun v u q => R.kp W T a₁ q) (QW us e1) w fun s' σ' R' a' hk => out.nxt s' σ' R' (R.adv W (R.advStep x₁) a') hk) hs hw
theorem HF (W : WfF f) (T : Thr f) (R₁ : StR f σ₁ s₁) (a : Adv f σ₁ s₁.heap σ s.heap) (R : StR f σ s) (r : (f.ec σ₁ s₁).R s₁ v u) {target : Expr} {tgt : Tgt} (lt : lowTgt f.cx (view target) = some tgt) {k : Rho → Prop} (w : bindF tgt u σ.ρ k) {E : Value → Shared → Prop} {Q : Unit → Shared → Prop}
    (h : ∀ s' σ', StR f σ' s' → Adv f σ s.heap σ' s'.heap → k σ'.ρ → Q () s') : wpAny (model f.G.prog f.G.w) f.A (assign target f.env v) Q E s := by
  have ve := JU target
  revert ve lt
  cases view target with
  | name x p =>
    intro lt ve
    obtain ⟨i, h1, rfl⟩ := Option.map_eq_some_iff.mp lt
    replace ve : Expr.Name x p = target := ve
    subst ve
    refine Zx w fun y e1 w => wpAny_bind (wpAny_standAt (wpAny_bindName (R.storeD W h1 (R₁.kp W T (R₁.at W) r |>.move (R₁.mv W a) y e1) fun s' R' a' => h s' _ R' a' w)))
  | tuple es n p =>
    intro lt ve
    obtain ⟨is, h1, rfl⟩ := Option.map_eq_some_iff.mp lt
    replace ve : Expr.Tuple es n p = target := ve
    subst ve
    refine Zx w fun us e1 w => ?_
    obtain ⟨t, items, m, rfl, ho, nf, rs⟩ := VN (R₁.wf W T).toWfC (R₁.at W).toAtC r is.length us e1
    have nt : ∀ {b : Addr}, Is s₁.heap b → b ≠ t := fun i z => by
      obtain ⟨o, e, q⟩ := i
      rw [z] at e
      exact absurd ((show s₁.heap.get? t = _ from ho).symm.trans e) (fun e => by cases e; exact q rfl _ _ rfl)
    refine Xy W R h1 (a.keep t _ nf (fun q => nt (R₁.fm.is q) rfl) (fun i q => nt (R₁.dpl t (R₁.ops i t q).1).2 rfl) ho).1 (rs.imp fun v u q => (R₁.kp W T (R₁.at W) q).move (R₁.mv W a)) (QW us e1) w h
  | _ => exact fun lt => nomatch lt
noncomputable def Sg.frz (σ : Sg) (i : Nat) : Sg := ⟨fun b => σ.pl b ∧ ¬ σ.op i b, fun j b => j ≠ i ∧ σ.op j b, TC.frz i σ.ρ⟩
theorem StR.frz (R : StR f σ s) (W : WfF f) (i : Nat) : StR f (σ.frz i) s := by
  have sub : ∀ b, f.hid (σ.frz i) b → f.hid σ b := fun b q => q.imp_left And.left
  refine ⟨R.ext, R.same, R.fm, R.hok, fun b q => R.newl b q.1, fun b q => R.dpl b q.1, fun j b q => ⟨⟨(R.ops j b q.2).1, fun z => R.dis j i q.1 b q.2 z⟩, (R.ops j b q.2).2⟩, fun j l ne b q z => R.dis j l ne b q.2 z.2, ?_, fun y j hy w hw => ?_⟩
  · show (σ.ρ.modify i _).length = _
    rw [List.length_modify]; exact R.len
  · replace hw : (σ.ρ.modify i (·.map frzV))[j]? = some (some w) := hw
    by_cases q : i = j
    · subst q
      rw [List.getElem?_modify_eq] at hw
      obtain ⟨o, e1, e2⟩ := Option.map_eq_some_iff.mp hw
      obtain ⟨u, rfl, rfl⟩ := Option.map_eq_some_iff.mp e2
      obtain ⟨v, va, r⟩ := R.slots y i hy u e1
      refine ⟨v, va, ?_⟩
      cases u with
      | d x => exact PR.anti r sub
      | own x =>
        obtain ⟨a, rfl, h1, h2, r⟩ := r
        exact r.pr (fun z => z.elim (fun z => z.2 h1) fun z => z.elim (R.dpl a (R.ops i a h1).1).1 (W.new0 (R.newl a (R.ops i a h1).1)).1) sub
      | brw x => exact r
      | exc k => exact r
      | _ => exact r.elim
    · rw [List.getElem?_modify_ne _ _ q] at hw
      obtain ⟨v, va, r⟩ := R.slots y j hy w hw
      refine ⟨v, va, ?_⟩
      have e : (fun b => j ≠ i ∧ σ.op j b) = σ.op j := funext fun b => propext ⟨And.right, fun z => ⟨Ne.symm q, z⟩⟩
      show SlR f (f.hid (σ.frz i)) s.heap (fun b => j ≠ i ∧ σ.op j b) v w
      rw [e]
      exact r.move (fun b o n e => ⟨fun z => n (sub b z), e⟩) (fun a _ o e => e) fun k q => q
end
end TC

namespace TC
open PySem PySem.W PyProof.Rows

section
variable {f : Ff} {σ σ' : Sg} {s s₁ s' : Shared} {h h' : Heap} {v : Value} {u : V} {K : KS} {Q : PySem.Flow → Shared → Prop} {x : Str} {i : Nat} {pos p : Pos} {b : Addr}
noncomputable abbrev Ff.to (f : Ff) (E : Value → Shared → Prop) : Ff := { f with E := E }
theorem StR.to (E : Value → Shared → Prop) (R : StR f σ s) : StR (f.to E) σ s := ⟨R.ext, R.same, R.fm, R.hok, R.newl, R.dpl, R.ops, R.dis, R.len, R.slots⟩
theorem StR.fro {E : Value → Shared → Prop} (R : StR (f.to E) σ s) : StR f σ s := ⟨R.ext, R.same, R.fm, R.hok, R.newl, R.dpl, R.ops, R.dis, R.len, R.slots⟩
theorem WfF.to (E : Value → Shared → Prop) (W : WfF f) : WfF (f.to E) := ⟨W.ok, W.depth, W.units, W.frames, W.frame, W.funs0, W.base0, W.sub0, W.dom0, W.newp, W.envok, W.cells, W.inj, W.bnd⟩
theorem Adv.fro {E : Value → Shared → Prop} (a : Adv (f.to E) σ h σ' h') : Adv f σ h σ' h' := ⟨a.keep, a.out, a.junk⟩
noncomputable def OkB (f : Ff) (sts : List Stmt) (ts : Ss) : Prop := ∀ f' : Ff, f'.dep = f.dep → f'.cx = f.cx → WfF f' → Thr f' → OkSs f' sts ts
noncomputable abbrev Ff.lE (f : Ff) : Value → Shared → Prop := notedBy (model f.G.prog f.G.w) f.A f.env fun e s' => cameBackBy (model f.G.prog f.G.w) f.A f.env f.E e s'
theorem Thr.loop (T : Thr f) (W : WfF f) : Thr (f.to f.lE) := fun e s' k C fl σ R hC hl F hx => loopExc W T R.fro hC hl F hx

structure Off (f : Ff) (σ : Sg) (b : Addr) : Prop where
  fr : ¬ f.fr b
  pls : ¬ f.pls b
  op : ∀ i, ¬ σ.op i b
theorem StR.off_new (R : StR f σ s) (W : WfF f) (n : s.heap.get? b = none) : Off f σ b := ⟨fun q => (R.dom W b (W.sub b q)).not_none n, fun q => (R.fm.is q).not_none n, fun i q => (R.dpl b (R.ops i b q).1).2.not_none n⟩
theorem StR.off_rec (R : StR f σ s) (W : WfF f) {o : Obj} {vs : Array Value} (e : s.heap.get? b = some o) (d : o.data = .fields vs) : Off f σ b :=
  ⟨(R.sk W).notFields e d, fun q => by obtain ⟨o', e', _, n⟩ := R.fm.data q; rw [e] at e'; cases e'; exact n vs d, fun i q => by obtain ⟨o', e', n⟩ := (R.ops i b q).2; rw [e] at e'; cases e'; exact n vs d⟩
theorem StR.off_vis (R : StR f σ s) (W : WfF f) (n : ¬ f.hid σ b) : Off f σ b := ⟨fun q => n (W.sub b q), fun q => n (.inr (.inl q)), fun i q => n (.inl (R.ops i b q).1)⟩
theorem StR.off_old (R : StR f σ s) (W : WfF f) (nf : ¬ f.fr b) {o : Obj} (e : f.h₀.get? b = some o) : Off f σ b := ⟨nf, fun q => JE e (W.newp b q), fun i q => JE e (R.newl b (R.ops i b q).1)⟩

inductive Lv (f : Ff) (σ₀ : Sg) (h₁ : Heap) (I : Addr) (fp : List Addr) (St : Nat → Heap → Prop) (us : List V) (w : List V → Rho → Prop) (j : Nat) (s' : Shared) : Prop
  | mk (i : Nat) (σ' : Sg) : i + j = us.length → St i s'.heap → StR f σ' s' → Adv f σ₀ h₁ σ' s'.heap → σ'.pl I → (∀ b ∈ fp, (∃ o, s'.heap.get? b = some o) ∧ ∀ i, ¬ σ'.op i b) → w (us.drop i) σ'.ρ → Lv f σ₀ h₁ I fp St us w j s'
theorem WG (W : WfF f) (T : Thr f) {t : Expr} {body : List Stmt} {tgt : Tgt} {b : Ss} (ht : lowTgt f.cx (view t) = some tgt) (hb : OkB f body b) (R : StR f σ s) {s₀ : Shared} {v₀ : Value} {us : List V} (kh : Keep s.heap h') (sr : Src (f.ec σ s₀) s v₀ h' us) (hv : ∀ b, v₀ = .ref b → ¬ f.fr b → Off f σ b)
    (w : forW (fun x ρ' k => bindF tgt x ρ' fun ρ'' => wpSs (ΦF f) f.hm b ρ'' k f.X) K us σ.ρ) (out : Out f σ s K Q) :
    codeAny (model f.G.prog f.G.w) f.A (.forLoop t (.ref s.heap.objs.size) body [] f.env) (fun r s' => match r with | .ok fl => Q fl s' | .error e => cameBackBy (model f.G.prog f.G.w) f.A f.env f.E e s') { s with heap := h' } := by
  obtain ⟨It, src, ⟨fp, St, Wk, st0, hfp, hIt⟩, hsrc, hR, hP⟩ := sr
  have nI : s.heap.get? s.heap.objs.size = none := JW s.heap
  generalize s.heap.objs.size = I at *
  have xI : Ext f.fr s.heap h' := Ext.of kh
  have off : ∀ b ∈ fp, Off f σ b ∧ ∃ o, h'.get? b = some o := fun b hb => by
    rcases (hfp b hb).2 with rfl | q | q
    · obtain ⟨o, _, e, _⟩ := hIt 0 h' st0; exact ⟨R.off_new W nI, o, e⟩
    · obtain ⟨o, vs, e, d⟩ := R.hok.rec b q; exact ⟨R.off_rec W e d, o, kh b o e⟩
    · obtain ⟨e0, nf, o, e, _⟩ := hsrc b q; exact ⟨hv b (e0.trans q) nf, o, kh b o e⟩
  have Ifp : I ∈ fp := Wk.sub I (.head _)
  have nI' : ∀ b o, s.heap.get? b = some o → b ≠ I := fun b o e z => JE (z ▸ e) nI
  have hH : ∀ b ∈ hAddr f.A, ¬ b = I := fun b hb => let ⟨o, _, e, _⟩ := R.hok.rec b hb; nI' b o e
  have cls : ∀ {i h}, St i h → ∀ b, b = I → ∀ o vs C, h.get? b = some o → o.cls = .ref C → o.data ≠ .fields vs := fun st b z o vs C e c => by
    obtain ⟨o', _, e', c', _⟩ := hIt _ _ st
    rw [z, e'] at e; cases e; rw [c'] at c; cases c
  have inv0 : Lv f σ s.heap I fp St us (forW (fun x ρ' k => bindF tgt x ρ' fun ρ'' => wpSs (ΦF f) f.hm b ρ'' k f.X) K) us.length { s with heap := h' } := by
    obtain ⟨oI, _, eI, _, _, ntI⟩ := hIt 0 h' st0
    exact ⟨0, _, Nat.zero_add _, st0, R.grow W (s' := { s with heap := h' }) xI ⟨rfl, rfl⟩ (· = I) fun b q => q ▸ ⟨nI, oI, eI, ntI⟩, R.advGrow xI fun b q => q ▸ nI, .inl rfl, fun b hb => ⟨(off b hb).2, (off b hb).1.op⟩, w⟩
  refine codeAny_forLoop_any (Lv f σ s.heap I fp St us (forW (fun x ρ' k => bindF tgt x ρ' fun ρ'' => wpSs (ΦF f) f.hm b ρ'' k f.X) K)) (fun j s' inv => ?_) us.length inv0
  obtain ⟨i, σ', e1, st, R', a', hI', hf', w'⟩ := inv
  have opI := (hf' I Ifp).2
  have adv : ∀ {h5 : Heap} {pl' : AP}, (∀ b o, b ∉ [I] → s'.heap.get? b = some o → h5.get? b = some o) → (∀ b, pl' b → σ'.pl b) → (∀ b, σ'.pl b → b ≠ I → pl' b) → Adv f σ s.heap { σ' with pl := pl' } h5 := fun k5 s1 s2 =>
    ⟨fun b o q1 q2 q3 e => let ⟨y1, y2⟩ := a'.keep b o q1 q2 q3 e; ⟨k5 b o (fun z => nI' b o e (List.mem_singleton.mp z)) y1, y2⟩, fun b o q e z => a'.out b o q e (z.imp_left (s1 b)), fun b q z => let ⟨o, e, _⟩ := (R.dpl b q).2; s2 b (a'.junk b q z) (nI' b o e)⟩
  by_cases lt : i < us.length
  · refine Wk.item i s' _ _ lt st fun v h5 tk p st5 k5 => ?_
    obtain ⟨oJ, nJ, q1, q2, q3, q4⟩ := hIt (i + 1) h5 st5
    have R5 := R'.junk W (s' := { s' with heap := h5, toks := tk }) (Z := (· = I)) (pl' := σ'.pl) (fun b o n e => k5 b o (fun z => n (List.mem_singleton.mp z)) e) ⟨rfl, rfl⟩ (fun b q => q ▸ ⟨hI', opI⟩) hH (cls st) (fun b q => ⟨q, fun z => z ▸ ⟨oJ, q1, q4⟩⟩) fun i b q => (R'.ops i b q).1
    have a5 := adv k5 (fun b q => q) (fun b q _ => q)
    refine Xb (s := { s' with heap := h5, toks := tk }) q1 q2 q3 ?_
    rw [List.drop_eq_getElem_cons lt] at w'
    have gi := List.getElem?_eq_getElem lt
    have ri : (f.ec σ s).R s v us[i] := by
      have r := hR i v us[i] p gi
      rcases hP us[i] (List.getElem_mem lt) with ⟨y, z⟩ | ⟨y, z⟩ <;> rw [z] at r ⊢ <;> exact r
    refine HF W T R a5 R5 ri ht w' fun s6 σ6 R6 a6 w6 => ?_
    have hf6 : ∀ b ∈ fp, (∀ o, h5.get? b = some o → s6.heap.get? b = some o) ∧ (∃ o, s6.heap.get? b = some o) ∧ ∀ i, ¬ σ6.op i b := fun b hb => by
      have ⟨o, e⟩ : ∃ o, h5.get? b = some o := by
        by_cases z : b = I
        · exact z ▸ ⟨oJ, q1⟩
        · obtain ⟨o, e⟩ := (hf' b hb).1; exact ⟨o, k5 b o (fun q => z (List.mem_singleton.mp q)) e⟩
      obtain ⟨y1, y2⟩ := a6.keep b o (off b hb).1.fr (off b hb).1.pls (hf' b hb).2 e
      exact ⟨fun o' e' => by rw [e] at e'; cases e'; exact y1, ⟨o, y1⟩, y2⟩
    refine hb (f.to f.lE) rfl rfl (W.to _) (T.loop W) σ6 s6 _ _ (R6.to _) w6 ⟨fun s7 σ7 R7 a7 w7 => ?_, fun s7 v7 u7 σ7 ρ7 R7 r7 w7 => out.ret s7 v7 u7 σ7 ρ7 R7.fro r7 w7⟩
    have hf7 : ∀ b ∈ fp, (∀ o, h5.get? b = some o → s7.heap.get? b = some o) ∧ (∃ o, s7.heap.get? b = some o) ∧ ∀ i, ¬ σ7.op i b := fun b hb => by
      obtain ⟨y0, ⟨o, e⟩, y3⟩ := hf6 b hb
      obtain ⟨y1, y2⟩ := a7.keep b o (off b hb).1.fr (off b hb).1.pls y3 e
      exact ⟨fun o' e' => by have z := y0 o' e'; rw [e] at z; cases z; exact y1, ⟨o, y1⟩, y2⟩
    exact ⟨j - 1, by lia, i + 1, σ7, by lia, Wk.frame (i + 1) h5 _ st5 fun b hb o e => (hf7 b hb).1 o e, R7.fro, R.adv W a5 (R5.adv W a6 a7.fro), a7.junk I (a6.junk I hI' opI) (hf6 I Ifp).2.2, fun b hb => (hf7 b hb).2, w7⟩
  · obtain rfl : i = us.length := by lia
    refine Wk.done s' _ _ st fun h5 tk k5 => ?_
    rw [List.drop_length] at w'
    exact wpAny_execs_nil (out.nxt { s' with heap := h5, toks := tk } _ (R'.junk W (s' := { s' with heap := h5, toks := tk }) (Z := (· = I)) (pl' := fun b => σ'.pl b ∧ b ≠ I) (fun b o n e => k5 b o (fun z => n (List.mem_singleton.mp z)) e) ⟨rfl, rfl⟩ (fun b q => q ▸ ⟨hI', opI⟩) hH (cls st) (fun b q => ⟨q.1, fun z => absurd z q.2⟩) fun i b q => ⟨(R'.ops i b q).1, fun z => opI i (z ▸ q)⟩) (adv k5 (fun b q => q.1) fun b q z => ⟨q, z⟩) w')
end
end TC

namespace TC
open PySem PySem.W PyProof.Rows

theorem PR.vis {P : AP} {h : Heap} {z : Addr} {x : PyData} (r : PR P h (.ref z) x) : ¬ P z ∧ ∃ o, h.get? z = some o := by
  cases r with
  | list n e _ => exact ⟨n, _, e⟩
  | tuple n e _ => exact ⟨n, _, e⟩
  | dict n e _ _ _ => exact ⟨n, _, e⟩
section
variable {f : Ff} {σ σ' : Sg} {s s₁ s' : Shared} {h h' : Heap} {v : Value} {u : V} {K : KS} {Q : PySem.Flow → Shared → Prop} {x : Str} {i j : Nat} {pos p : Pos} {t iter : Expr} {body : List Stmt} {tgt : Tgt} {src : TC.E} {b : Ss}
theorem HG {hm : Bool} : All (itemsL hm u) fun us => itemsV hm u = some us ∧ ∀ y, u ≠ .brw y := by
  cases u with
  | brw y => exact .no
  | _ => exact fun us e => ⟨e, fun y q => nomatch q⟩
theorem HN (W : WfF f) (T : Thr f) (ht : lowTgt f.cx (view t) = some tgt) (hs : OkF f iter src) (hf : ∀ x, foldedSetIterable iter f.env x = pure x) (hb : OkB f body b) : OkS f (.For t iter body [] pos) (.loop tgt src b) := fun σ s K Q R w out =>
  wpAny_For ((hs σ s R).ev s _ _ (R.at W) w fun v s₁ u a₁ x₁ r w₁ => Zx w₁ fun us e w => by
    have R₁ := R.step W x₁ a₁.same
    obtain ⟨e', nb⟩ := HG us e
    refine VH (R.wf W T).toWfC a₁ r us e' _ fun h' kh sr => WG W T ht hb R₁ kh sr (fun z hz nf => ?_) w.2 (out.from R W (R.advStep x₁))
    subst hz
    cases u with
    | d y => exact R₁.off_vis W (PR.vis r).1
    | own y => obtain ⟨a, e, n, _⟩ := r; cases e; exact R.off_new W n
    | brw y => exact absurd rfl (nb y)
    | rg n => obtain ⟨r, t1, t2, t3, e, nr, l, ir⟩ := r; cases e; exact R₁.off_rec W ir rfl
    | _ => exact nomatch e') hf
theorem Gv : Adv f σ h (σ.frz i) h := ⟨fun b o q1 q2 q3 e => ⟨e, fun j z => q3 j z.2⟩, fun b o q e z => q (z.imp_left And.left), fun b q z => ⟨q, z i⟩⟩
theorem Uz (W : WfF f) {st : Stmt} {t : TC.S} (h : OkS f st t) (l : List Nat) : OkS f st (fzs l t) := by
  induction l with
  | nil => exact h
  | cons i l ih => exact fun σ s K Q R w out => ih (σ.frz i) s K Q (R.frz W i) w (out.from R W Gv)
theorem Wt (W : WfF f) (T : Thr f) (ht : lowTgt f.cx (view t) = some tgt) (hv : f.cx.var x = some i) (hb : OkB f body b) : OkS f (.For t (.Name x p) body [] pos) (.loopn tgt i b) := fun σ s K Q R w out => by
  have R0 := R.frz W i
  refine Zx w fun su e1 w => Zx w fun u e2 w => Zx w fun us e3 w => ?_
  obtain ⟨h1, h2, h3⟩ := Jl hv
  obtain ⟨v, va, r⟩ := R0.slots x i h2 u (e2 ▸ e1)
  have key : (f.ec (σ.frz i) s).R s v u ∧ ∀ z, v = .ref z → ¬ f.fr z → Off f (σ.frz i) z := by
    cases u with
    | d y => exact ⟨r, fun z e _ => R0.off_vis W (PR.vis (e ▸ r)).1⟩
    | own y => obtain ⟨a, _, q, _⟩ := r; exact absurd rfl q.1
    | brw y =>
      refine ⟨PR.move (fun b o n e => ⟨fun q => ?_, (R.ext b o e).1 n⟩) r, fun z e nf => ?_⟩
      · exact ((QQ W).mp q).elim (fun q => JE e (W.newp b (.inl q))) n
      · obtain ⟨_, o, e'⟩ := PR.vis (e ▸ r); exact R0.off_old W nf e'
    | exc k => exact nomatch e3
    | _ => exact r.elim
  exact wpAny_For (QL (c := f.ec (σ.frz i) s) W.envok h1 va (VH (R0.wf W T).toWfC (R0.at W) key.1 us e3 _ fun h' kh sr => WG W T ht hb R0 kh sr key.2 w.2 (out.from R W Gv)))
inductive Wv (f : Ff) (σ₀ : Sg) (h₁ : Heap) (w : Nat → Rho → Prop) (n : Nat) (s' : Shared) : Prop
  | mk (σ' : Sg) : StR f σ' s' → Adv f σ₀ h₁ σ' s'.heap → w n σ'.ρ → Wv f σ₀ h₁ w n s'
theorem ZEg (W : WfF f) (T : Thr f) {c : Expr} {c' : TC.E} (hc : ∀ f' : Ff, f'.dep = f.dep → f'.cx = f.cx → WfF f' → Thr f' → OkF f' c c') (hb : OkB f body b) : OkS f (.While c body [] pos) (.whl c' b) := fun σ s K Q R w out => by
  obtain ⟨n, w⟩ := w
  refine wpAny_While (codeAny_whileLoop (Wv f σ s.heap (whlW (fun ρ' => wpE (ΦF f) f.hm (f.X · ρ') c' ρ') (fun ρ' k => wpSs (ΦF f) f.hm b ρ' k f.X) K)) (fun n s' inv => ?_) n ⟨σ, R, Adv.refl _ _ _, w⟩)
  obtain ⟨σ', R', a', w'⟩ := inv
  cases n with
  | zero => exact w'.elim
  | succ n =>
    refine ((hc (f.to f.lE) rfl rfl (W.to _) (T.loop W)) σ' s' (R'.to _)).ts s' _ _ ((R'.to _).at (W.to _)) w' (fun u => Qm) fun b s₁ a₁ x₁ w₁ => ?_
    have R₁ := R'.step W x₁ a₁.same
    cases b with
    | true => exact hb (f.to f.lE) rfl rfl (W.to _) (T.loop W) σ' s₁ _ _ (R₁.to _) w₁ ⟨fun s7 σ7 R7 a7 w7 => ⟨n, Nat.lt_succ_self n, σ7, R7.fro, R.adv W a' (R'.adv W (R'.advStep x₁) a7.fro), w7⟩, fun s7 v7 u7 σ7 ρ7 R7 r7 w7 => out.ret s7 v7 u7 σ7 ρ7 R7.fro r7 w7⟩
    | false => exact wpAny_execs_nil (out.nxt s₁ σ' R₁ (R.adv W a' (R'.advStep x₁)) w₁)
end
end TC

namespace TC
open PySem PySem.W PyProof.Rows

section
variable {f : Ff} {σ σ' : Sg} {s s₁ s' : Shared} {h h' : Heap} {v : Value} {u : V} {K : KS} {Q : PySem.Flow → Shared → Prop} {x : Str} {i j : Nat} {pos p : Pos} {body : List Stmt} {b : Ss} {G : Gl} {hm : Bool} {A : Around} {X : XS} {E : Value → Shared → Prop}
theorem Gd (O : G.Ok) {k : Nat} {C : Addr} (hC : G.ca[k]? = some C) (b : G.B.StaysIn h) : ∃ bm N nm q bs hdct sn sub ab col dd k0 k1 k2 k3 k5 mN, h.get? C = some (excClassObj nm q C N bs bm hdct sn sub ab col dd k0 k1 k2 k3 k5 "ValueError.__new__") ∧ h.Ns N mN ∧ mN "__init__" = none ∧ OwnTail h bmV bm :=
  let ⟨_, o⟩ := O.cown k C hC
  (o.keeps b).obj
theorem Hl (W : WfF f) (T : Thr f) {c msg : Str} {k : Nat} {p1 p2 p3 : Pos} {kd : Nat} (hg : f.cx.glob c = true) (hc : f.cx.cls.lookup c = some k) : OkS f (.Raise (some (.Call (.Name c p1) [.Constant (.str msg) kd p2] [] p3)) none pos) (.rais k) := fun σ s K Q R w out => by
  have O := W.ok
  have hh : f.A.handled = none := (w.1 ▸ R.hok : HOk false f.A s.heap).none
  obtain ⟨C, hC, hns⟩ := O.cnm c k (by rw [← W.envok.cls]; exact hc)
  obtain ⟨bm, N, nm, q, bs, hdct, sn, sub, ab, col, dd, k0, k1, k2, k3, k5, mN, hCo, hN, hni, TL⟩ := Gd O hC (R.stk W).2
  refine wpAny_Raise_call_subT PySem.F.excBase_ValueError (C := C) (nm := nm) (q := q) (N := N) (bs := bs) (bm := bm) (hdct := hdct) (sn := sn) (sub := sub) (ab := ab) (col := col) (dd := dd) (k0 := k0) (k1 := k1) (k2 := k2) (k3 := k3) (k5 := k5) (mN := mN) (TL.hasType PySem.F.excBase_ValueError.hasBase) hh rfl hni (Qw (R.wf W T) (R.at W).toAtC hg hns ⟨rfl, ?_⟩)
  refine Calls.evalArgs_plain (args_cons (Calls.Constant_str (args_nil ⟨rfl, ?_, hCo, hN, TL, fun h' e m => ?_⟩)))
  · show 1 ≤ sizeLine; rw [sizeLine_eq]; decide
  · obtain ⟨fl, xt⟩ := ZCo (fr := f.fr) m
    exact T e { s with heap := h', toks := _ } k C .none σ (R.step W (s' := { s with heap := h', toks := _ }) xt ⟨rfl, rfl⟩) hC (.inl rfl) (fl.back (R.extF W)) w.2
theorem Fly.bare {h₀ h : Heap} {e C : Addr} {fl : Value} (x : Fly h₀ e C fl h) : Bare h e := let ⟨oe, vs, _, h1, _, _, h4, h5, _⟩ := x; ⟨oe, vs, h1, h4, h5⟩
theorem Fly.exc {h₀ h : Heap} {e C : Addr} {fl : Value} {ca : List Addr} {c : Nat} (hc : ca[c]? = some C) (x : Fly h₀ e C fl h) : ExcAt ca c h (.ref e) := let ⟨oe, vs, _, h1, h2, h3, h4, _, _⟩ := x; ⟨e, oe, vs, C, rfl, hc, h1, h2, h3, h4⟩
theorem ZCp (O : G.Ok) {c c' : Nat} {C C' e : Addr} {oe : Obj} (hC : G.ca[c]? = some C) (hC' : G.ca[c']? = some C') (st : G.B.StaysIn s.heap) (he : s.heap.get? e = some oe) (hcls : oe.cls = .ref C) (hs : (c' == 0 || c == c') = true)
    {Q : Bool → Shared → Prop} (h : Q true s) : wpAny (model G.prog G.w) A (excMatches (.ref e) (.ref C')) Q E s := by
  obtain ⟨bm, N, nm, q, bs, hdct, sn, sub, ab, col, dd, k0, k1, k2, k3, k5, mN, hCo, hN, hni, TL⟩ := Gd O hC' st
  have hbase : bm.contains (.type "BaseException") = true := TL.hasType PySem.F.excBase_ValueError.hasBase
  have hcB : (Value.ref C' :: bm).contains (.type "BaseException") = true := by rw [List.contains_cons, hbase, Bool.or_true]
  have f := tc_notTuple
  have kx := O.csub c C c' C' hC hC'
  rw [hs] at kx
  have X : G.K.In s.heap := O.inK.keeps st
  have L : ∀ {Q : Bool → Shared → Prop}, Q true s → wpAny (model G.prog G.w) A (isSubtype (.ref C) (.ref C')) Q E s := fun {Q} hq => (looks_mroIn X kx).at hq
  obtain ⟨hp, g, d, tk, os⟩ := s
  unfold excMatches
  repeat (first | (with_reducible refine wpAny_loadPart_at he ?_; rw [hcls]) | with_reducible refine wpAny_loadPart_at hCo ?_ | (with_reducible refine wpAny_isSubtype_exc hCo ?_; rw [hcB]) | with_reducible refine L ?_ | wp_step)
  exact h
noncomputable abbrev Ff.re (f : Ff) (hm : Bool) (A : Around) (X : XS) (E : Value → Shared → Prop) : Ff := { f with hm := hm, A := A, X := X, E := E }
theorem StR.re (R : StR f σ s) (k : HOk hm A s.heap) : StR (f.re hm A X E) σ s := ⟨R.ext, R.same, R.fm, k, R.newl, R.dpl, R.ops, R.dis, R.len, R.slots⟩
theorem StR.un (R : StR (f.re hm A X E) σ s) (k : HOk f.hm f.A s.heap) : StR f σ s := ⟨R.ext, R.same, R.fm, k, R.newl, R.dpl, R.ops, R.dis, R.len, R.slots⟩
theorem WfF.re (W : WfF f) (h1 : A.frames = f.A.frames) (h2 : A.depth = f.A.depth) (h3 : A.units = f.A.units) : WfF (f.re hm A X E) := ⟨W.ok, h2 ▸ W.depth, h3 ▸ W.units, h1.trans W.frames, W.frame, W.funs0, W.base0, W.sub0, W.dom0, W.newp, W.envok, W.cells, W.inj, W.bnd⟩
theorem OkB.re (h : OkB f body b) (W : WfF (f.re hm A X E)) (T : Thr (f.re hm A X E)) : OkSs (f.re hm A X E) body b := h _ rfl rfl W T
theorem StR.unname (R : StR f σ s) (W : WfF f) {m' : Str → Option Value} (n : s'.heap.Ns f.env.locals m') (sb : Heap.SameBut f.env.locals s.heap s'.heap) (sm : Same s s') : StR f ⟨fun _ => False, fun _ _ => False, List.replicate f.cx.nx none⟩ s' := by
  have k : ∀ b o, ¬ b = f.env.locals → s.heap.get? b = some o → s'.heap.get? b = some o := fun b o hb e => (sb.2 b hb).trans e
  obtain ⟨m, n0⟩ := R.fm.ns
  refine ⟨R.ext.on k fun b q => W.newp b (.inl q), R.same.trans sm, ⟨R.fm.kf, ⟨m', n⟩, fun y a e => let ⟨w, q⟩ := R.fm.cell y a e; ⟨w, q.sameBut sb (QN n0 q)⟩, R.fm.look, R.fm.inj⟩, R.hok.at fun b hb o e => k b o (fun z => ?_) e, fun _ q => q.elim, fun _ q => q.elim, fun _ _ q => q.elim, fun _ _ _ _ q => q.elim, List.length_replicate, fun y j hy u hu => ?_⟩
  · obtain ⟨o', vs, e1, e2⟩ := R.hok.rec b hb
    obtain ⟨o2, e3, _, e4⟩ := R.fm.data (.inl z)
    rw [e1] at e3; cases e3; exact e4 vs e2
  · replace hu : (List.replicate f.cx.nx none)[j]? = some (some u) := hu
    rw [List.getElem?_replicate] at hu
    split at hu <;> cases hu
theorem ZCv (R : StR f σ s) (sb : Heap.SameBut f.env.locals s.heap h') (r : VR f.G.ca f.h₀ (fun b => f.pls b ∨ f.hid0 b) f.fr0 s.heap v u) (ok : okRet u) : VR f.G.ca f.h₀ (fun b => f.pls b ∨ f.hid0 b) f.fr0 h' v u := by
  have k : ∀ b o, b ≠ f.env.locals → s.heap.get? b = some o → h'.get? b = some o := fun b o hb e => (sb.2 b hb).trans e
  cases u with
  | d y => exact PR.move (fun b o n e => ⟨n, k b o (fun z => n (.inl (.inl z))) e⟩) r
  | own y =>
    cases y with
    | list xs =>
      obtain ⟨a, e, na, q⟩ := r
      refine ⟨a, e, na, q.move (fun b o n e => ⟨n, k b o (fun z => n (.inr (.inl (.inl z)))) e⟩) fun o e => k a o (fun z => ?_) e⟩
      obtain ⟨vs, nn, e1, _⟩ := q
      obtain ⟨m, n0⟩ := R.fm.ns
      obtain ⟨o0, es0, ep0, ho0, hd0⟩ := UW n0
      rw [z, ho0] at e1; cases e1; cases hd0
    | _ => exact ok.elim
  | _ => exact ok.elim
theorem ZDv (W : WfF f) (T : Thr f) {c : Str} {hb : List Stmt} {h0 : Stmt} {k : Nat} {b' h1 : Ss} {p1 p2 : Pos} (hg : f.cx.glob c = true) (hl : f.cx.kd.lookup x = some .local) (hc : f.cx.cls.lookup c = some k) (hv : f.cx.var x = some i) (lb : OkB f body b') (lh : OkB f (h0 :: hb) h1) :
    OkS f (.Try body [.ExceptHandler (some (.Name c p1)) (some x) (h0 :: hb) p2] [] [] pos) (.tryx b' k i h1) := fun σ s K Q R w out => by
  have O := W.ok
  refine wpAny_Try_except ?_
  refine lb.re (hm := f.hm) (A := f.A) (X := fun c' ρ' => (k = 0 ∨ k = c') ∧ f.hm = false ∧ wpSs (ΦF f) true h1 (ρ'.set i (some (.exc c'))) (fun fl ρ'' => match fl with
      | .nxt => False
      | .ret v => okRet v ∧ K (.ret v) ρ'') (fun _ _ => False)) (W.re rfl rfl rfl) ?_ σ s K _ (R.re R.hok) w ?_
  rotate_left
  · exact ⟨fun s' σ' R' a hk => wpAny_execs_nil (out.nxt s' σ' (R'.un R'.hok) ⟨a.keep, a.out, a.junk⟩ hk), fun s' v u σ' ρ R' r hk => out.ret s' v u σ' ρ (R'.un R'.hok) r hk⟩
  intro e s' c' C fl σ' R' hC hfl Fl w'
  replace R' := R'.un R'.hok
  obtain ⟨hk0, hmf, w'⟩ := w'
  have hA : f.A.handled = none := (hmf ▸ R.hok : HOk false f.A s.heap).none
  refine VK (R'.sk W) rfl W.frame (R'.extF W) hfl Fl fun h2 x2 F2 n2 => ?_
  refine Qt (fo := none) (s := { s' with heap := h2 }) x2 F2 (fun _ => rfl) fun h3 x3 F3 n3 => ?_
  have R3 := R'.noted W (s' := { s' with heap := h3 }) x3 ⟨rfl, rfl⟩ (n2.trans n3)
  obtain ⟨C', hC', hns⟩ := O.cnm c k (by rw [← W.envok.cls]; exact hc)
  have R4 : ∀ E, StR (f.re true (f.A.mark (some (.ref e))) (fun _ _ => False) E) σ' { s' with heap := h3 } := fun E => R3.re (.inr ⟨rfl, e, rfl, F3.bare⟩)
  have W4 : ∀ E, WfF (f.re true (f.A.mark (some (.ref e))) (fun _ _ => False) E) := fun E => W.re rfl rfl rfl
  have T4 : ∀ E, Thr (f.re true (f.A.mark (some (.ref e))) (fun _ _ => False) E) := fun E _ _ _ _ _ _ _ _ _ _ q => q.elim
  refine wpAny_handleBy_cons (codeAny_handlers_test ?_) (by intro q; cases q)
  refine Qw (c := (f.re true (f.A.mark (some (.ref e))) (fun _ _ => False) _).ec σ' { s' with heap := h3 }) ((R4 _).wf (W4 _) (T4 _)) ((R4 _).at (W4 _)).toAtC hg hns ?_
  have F3' := F3
  obtain ⟨oe, vs, ne, e1, e2, e3, e4, e5, _⟩ := F3
  refine ZCp (s := { s' with heap := h3 }) O hC hC' (R3.stk W).2 e1 e2 ?_ (codeAny_handlers_suite_as ?_)
  · rcases hk0 with rfl | rfl <;> simp
  refine Qt (fo := none) (s := { s' with heap := h3 }) x3 F3' (fun _ => rfl) fun h4 x4 F4 n4 => ?_
  have R5 := fun E => (R4 E).noted (W4 E) (s' := { s' with heap := h4 }) x4 ⟨rfl, rfl⟩ n4
  refine (R5 f.E).store (W4 f.E) (P := fun _ => False) hv (u := .exc c') (F4.exc hC) (fun a ha => ha.elim) (fun j _ a ha => ha.elim) fun s6 R6 k6 => ?_
  refine lh.re (W4 _) (T4 _) _ s6 _ _ (R6.re R6.hok) w' ?_
  refine ⟨fun s7 σ7 R7 a7 hk => hk.elim, fun s7 v7 u7 σ7 ρ7 R7 r7 hk => ?_⟩
  obtain ⟨m0, n0⟩ := R7.fm.ns
  have R8 : StR f σ7 s7 := R7.un (.inl ⟨hmf, hA⟩)
  refine wpAny_nameGoes (by unfold Env.kindOf; rw [W.envok.names]; exact hl) n0 (by rw [W.envok.kind]; rfl) fun h8 m8 n8 sb8 => ?_
  exact out.ret { s7 with heap := h8, toks := _ } v7 u7 _ ρ7 (R8.unname W (s' := { s7 with heap := h8, toks := _ }) n8 sb8 ⟨rfl, rfl⟩) (ZCv R8 sb8 r7 hk.1) hk.2
end
end TC

namespace TC
open PySem PySem.W PyProof.Rows

section
variable {P : AP} {h : Heap} {a : Addr} {es : Array DictEntry} {kvs : List (PyData × PyData)} {prog : Program} {w : World}
theorem DictOk.shape {g : List PyData} (d : DictOk a es kvs) (e : kvs.map (·.1) = g) : kvs = g.map fun k => (k, PyData.bool true) := by
  subst e
  rw [List.map_map]
  exact (List.map_id' kvs).symm.trans (List.map_congr_left fun p hp => by rw [Function.comp, ← d.vals p hp])
theorem GN {ks : List Int} {k : Int} : (stored (ks.map fun k => (k, Value.bool true)) k (.bool true)).map (·.1) = cond (ks.contains k) ks (ks ++ [k]) := by
  have e : ((ks.map fun k => (k, Value.bool true)).any fun kv => kv.1 = k) = ks.contains k := by
    rw [List.any_map, List.contains_eq_any_beq]
    refine congrArg ks.any (funext fun x => ?_)
    show decide (x = k) = (k == x)
    by_cases q : x = k
    · rw [decide_eq_true q, q, beq_self_eq_true]
    · rw [decide_eq_false q, beq_false_of_ne (Ne.symm q)]
  have id1 : (ks.map fun k => (k, Value.bool true)).map (·.1) = ks := by rw [List.map_map]; exact List.map_id ks
  unfold stored
  rw [e]
  cases ks.contains k with
  | true =>
    rw [if_pos rfl, List.map_map]
    refine (List.map_congr_left fun p _ => ?_).trans id1
    show (if p.1 = k then (p.1, Value.bool true) else p).1 = p.1
    split <;> rfl
  | false => rw [if_neg (by decide), List.map_append, id1]; rfl
theorem GM {ks : List Int} {k : Int} : ∀ p ∈ stored (ks.map fun k => (k, Value.bool true)) k (.bool true), p.2 = Value.bool true := fun p hp => by
  unfold stored at hp
  have old : ∀ q ∈ ks.map fun k => (k, Value.bool true), q.2 = Value.bool true := fun q hq => by obtain ⟨x, _, rfl⟩ := List.mem_map.mp hq; rfl
  split at hp
  · obtain ⟨q, hq, rfl⟩ := List.mem_map.mp hp
    split
    · rfl
    · exact old q hq
  · rcases List.mem_append.mp hp with hp | hp
    · exact old p hp
    · rw [List.mem_singleton.mp hp]
theorem ZCx {d : Addr} {xs : List (List Int × Addr × Value)} (hm : h.DictOfH (tupleKind (intKind prog w)) d xs) (ht : ∀ x ∈ xs, PR P h (.ref x.2.1) (.tuple (ofInts x.1)) ∧ x.2.2 = .bool true) (off : (d == sysModules) = false) : OwnAt P h d (.dict ((ofTups (xs.map (·.1))).map fun k => (k, .bool true))) := by
  obtain ⟨o, es, n, ho, ⟨c1, c2, c3⟩, hd, he, _, nd⟩ := hm
  obtain ⟨cls, dct, data, slots⟩ := o
  cases c1; cases c2; cases c3; cases hd
  have e1 : (((ofTups (xs.map (·.1))).map fun k => (k, PyData.bool true)).map (·.1)) = ofTups (xs.map (·.1)) := by rw [List.map_map]; exact List.map_id _
  refine ⟨es, n, ho, ?_, ?_, off, fun p hp => ?_, .inr ⟨xs.map (·.1), e1, ?_, nd⟩⟩
  · rw [e1, he, List.map_map, ofTups, List.map_map]
    refine PRs.of (by rw [List.length_map, List.length_map]) fun k v x e2 e3 => ?_
    rw [List.getElem?_map] at e2 e3
    obtain ⟨y, q1, rfl⟩ := Option.map_eq_some_iff.mp e2
    rw [q1] at e3
    cases e3
    exact (ht y (List.mem_of_getElem? q1)).1
  · rw [he, List.map_map, List.map_map, ofTups, List.map_map, List.map_map]
    refine PRs.of (by rw [List.length_map, List.length_map]) fun k v x e2 e3 => ?_
    rw [List.getElem?_map] at e2 e3
    obtain ⟨y, q1, rfl⟩ := Option.map_eq_some_iff.mp e2
    rw [q1] at e3
    cases e3
    show PR P h y.2.2 (.bool true)
    rw [(ht y (List.mem_of_getElem? q1)).2]; exact .bool _
  · obtain ⟨k, _, rfl⟩ := List.mem_map.mp hp; rfl
  · rw [he, List.map_map, List.map_map]; rfl
theorem Uh {xs : List (List Int × Addr × Value)} {k : List Int} {z : Addr} {v : Value} : (storedH xs k z v).map (·.1) = cond ((xs.map (·.1)).contains k) (xs.map (·.1)) (xs.map (·.1) ++ [k]) := by
  unfold storedH
  rw [Vb]
  cases (xs.map (·.1)).contains k with
  | true => rw [if_pos rfl, keys_map_putAt]; rfl
  | false => rw [if_neg (by decide), List.map_append]; rfl
theorem Ug {xs : List (List Int × Addr × Value)} {k : List Int} {z : Addr} {R : List Int → Addr → Prop} (h : ∀ x ∈ xs, R x.1 x.2.1 ∧ x.2.2 = Value.bool true) (hk : R k z) : ∀ x ∈ storedH xs k z (.bool true), R x.1 x.2.1 ∧ x.2.2 = Value.bool true := fun x hx => by
  unfold storedH at hx
  split at hx
  · obtain ⟨y, hy, rfl⟩ := List.mem_map.mp hx
    unfold putAt
    split
    · exact ⟨(h y hy).1, rfl⟩
    · exact h y hy
  · rcases List.mem_append.mp hx with hx | hx
    · exact h x hx
    · rw [List.mem_singleton.mp hx]; exact ⟨hk, rfl⟩
end
section
variable {f : Ff} {σ : Sg} {s s₁ s' : Shared} {v : Value} {u : V} {x : Str} {i : Nat} {pos p : Pos}
theorem StR.mutO (R : StR f σ s) (W : WfF f) (hv : f.cx.var x = some i) {a : Addr} {y : PyData} (va : varAt f.env s.heap x (.ref a)) (h1 : σ.op i a) (h2 : ∀ b, σ.op i b → b = a) (k : ∀ b o, b ≠ a → s.heap.get? b = some o → s'.heap.get? b = some o) (sm : Same s s') (r : OwnAt (f.hid σ) s'.heap a y) : StR f (σ.put i (σ.op i) (.own y)) s' := by
  have hpl := (R.ops i a h1).1
  have ap : ∀ b, f.pls b → b ≠ a := fun b q z => (R.dpl a hpl).1 (z ▸ q)
  have vk : ∀ y w, varAt f.env s.heap y w → varAt f.env s'.heap y w := fun y w va => va.imp (fun ⟨q, mm, nn, hv⟩ => ⟨q, mm, nn.at' fun o e => k _ o (ap _ (.inl rfl)) e, hv⟩) fun ⟨q, b, hb, o, q1, q2⟩ => ⟨q, b, hb, o, k b o (ap b (.inr ⟨y, W.cells y b hb⟩)) q1, q2⟩
  exact R.put W (Jl hv).2.1 (Z := (· = a)) k sm (fun b q => q ▸ ⟨.inl hpl, R.newl a hpl, (R.ops i a h1).2⟩) (R.fm.on fun b o q e => k b o (ap b q) e) (fun b _ q => q ▸ ⟨r.is, r.nr⟩) (fun b q => ⟨(R.ops i b q).1, h2 b q ▸ r.nr⟩) (fun j ne b q => R.dis i j (Ne.symm ne) b q) (fun j ne b q z => R.dis j i ne b q (z ▸ h1)) (vk x _ va) (fun y w _ => vk y w) ⟨a, rfl, h1, h2, r⟩
theorem ZFu (W : WfF f) {d : Addr} {kvs : List (PyData × PyData)} {y : PyData} {Q : Unit → Shared → Prop} (hd : f.hid σ d) (ro : OwnAt (f.hid σ) s.heap d (.dict kvs)) (rk : PR (f.hid σ) s.heap v y) (hz : kvs.length < lim) : All (addKey y kvs) fun kvs' => (∀ h' tk, OwnAt (f.hid σ) h' d (.dict kvs') → (∀ b o, b ≠ d → s.heap.get? b = some o → h'.get? b = some o) → Q () { s with heap := h', toks := tk }) → f.wp (setItem (.ref d) v (.bool true)) Q s := by
  obtain ⟨es, n, ho, r1, r2, ok⟩ := ro
  refine .map fun b e k => ?_
  have lz : ∀ {m : Nat}, m = kvs.length → m ≤ sizeLine := fun q => q ▸ Jt hz (by rw [sizeLine_eq]; decide)
  cases y with
  | int j =>
    obtain ⟨ks, e1, rfl⟩ := Option.map_eq_some_iff.mp e
    obtain ⟨t, rfl⟩ := rk.inv
    have hk := ok.shape (ok.ints e1).1
    refine wpAny_setItem_pairs (intKind_is f.G.prog f.G.w j t) (Hz ho r1 r2 ok e1) (fun h' hm sb => ?_) (lz (by rw [hk, List.length_map, List.length_map, ofInts, List.length_map]))
    have := Hg (P := f.hid σ) hm GM ok.off
    rw [GN] at this
    refine k h' _ ?_ fun b o n e => (sb.2 b n).trans e
    revert this
    cases ks.contains j with
    | true => intro this; rw [hk, ofInts, List.map_map]; exact this
    | false => intro this; rw [hk, ofInts, List.map_map]; rw [show (cond false ks (ks ++ [j])) = ks ++ [j] from rfl, List.map_append] at this; exact this
  | tuple l =>
    obtain ⟨t, e0, e⟩ := Option.bind_eq_some_iff.mp e
    obtain ⟨ks, e1, rfl⟩ := Option.map_eq_some_iff.mp e
    obtain ⟨z, _, _, rfl, _⟩ := id rk.inv
    have el := Qb t e0
    subst el
    obtain ⟨h1, h2, h3⟩ := ok.tups e1
    have hk := ok.shape h1
    rw [ok.snd, h1] at r2
    rw [h1] at r1
    obtain ⟨xs, p1, p2, p3⟩ := WX (prog := f.G.prog) (w := f.G.w) r1 r2 h2
    subst p1
    have hu : (tupleKind (intKind f.G.prog f.G.w)).room f.A.in1 := show f.A.units + 1 < cLine from by have := W.units; show f.A.units + 1 < 9900; lia
    refine wpAny_setItem_heap hu (HJ rk) ⟨_, es, n, ho, ⟨rfl, rfl, rfl⟩, rfl, p2, fun x hx => (p3 x hx).1, h3⟩ (fun h' hm sb => ?_) (lz (by rw [hk, List.length_map, ofTups, List.length_map, List.length_map]))
    have mv : Mv (f.hid σ) (f.hid σ) s.heap h' := fun b o n e => ⟨n, (sb.2 b fun q => n (q ▸ hd)).trans e⟩
    have := ZCx (P := f.hid σ) hm (Ug (R := fun k z => PR (f.hid σ) h' (.ref z) (.tuple (ofInts k))) (fun x hx => ⟨(p3 x hx).2.1.move mv, (p3 x hx).2.2⟩) (rk.move mv)) ok.off
    rw [Uh] at this
    refine k h' _ ?_ fun b o n e => (sb.2 b n).trans e
    revert this
    cases (xs.map (·.1)).contains t with
    | true => intro this; rw [hk]; exact this
    | false => intro this; rw [hk]; rw [show (cond false (xs.map (·.1)) (xs.map (·.1) ++ [t])) = xs.map (·.1) ++ [t] from rfl, ofTups, List.map_append, List.map_append] at this; exact this
  | _ => exact nomatch e
theorem ZCd (W : WfF f) (T : Thr f) {kx : Expr} {k' : TC.E} {np sp cp : Pos} {ci : Nat} (hv : f.cx.var x = some i) (hk : OkF f kx k') : OkS f (.Assign [.Subscript (.Name x np) kx sp] (.Constant (.bool true) ci cp) pos) (.key i k') := fun σ s K Q R w out => by
  refine Zx w fun su e1 w => Zx w fun u e2 w => ?_
  cases u with
  | own y =>
    cases y with
    | dict kvs =>
      have ol : ∀ {s'}, StR f σ s' → ∃ d, varAt f.env s'.heap x (.ref d) ∧ σ.op i d ∧ (∀ b, σ.op i b → b = d) ∧ OwnAt (f.hid σ) s'.heap d (.dict kvs) := fun R' => by
        obtain ⟨v, va, d, rfl, h1, h2, r⟩ := R'.slots x i (Jl hv).2.1 _ (e2 ▸ e1)
        exact ⟨d, va, h1, h2, r⟩
      refine wpAny_Assign_Subscript (wpAny_Constant_bool ?_) rfl
      obtain ⟨d, va, _⟩ := ol R
      refine QL (c := f.ec σ s) W.envok (Jl hv).1 va ((hk σ s R).ev s _ _ (R.at W) w fun vk s₂ uk a₂ x₂ rk w₂ => Zx w₂ fun y e3 w => Zx w fun kvs' e4 w => ?_)
      have R₂ := R.step W x₂ a₂.same
      obtain ⟨d', vb, p1, p2, ro⟩ := ol R₂
      cases vb.uniq (va.ext x₂)
      refine ZFu W (.inl (R.ops i _ p1).1) ro ((R.wf W T).keep a₂.toAtC rk y e3) w.1 kvs' e4 fun h3 tk ro3 k3 => ?_
      exact out.nxt { s₂ with heap := h3, toks := tk } _ (R₂.mutO W hv (s' := { s₂ with heap := h3, toks := tk }) vb p1 p2 k3 ⟨rfl, rfl⟩ ro3) (Adv.mut R x₂ p1 k3) w.2
    | _ => exact w.elim
  | _ => exact w.elim
end
end TC

namespace TC
open PySem PySem.W PyProof.Rows

section
variable {s : Shared} {v : Value}
end
end TC

namespace TC
open PySem PySem.W PyProof.Rows

noncomputable def SS (dep n : Nat) : Prop := ∀ f : Ff, f.dep = dep → WfF f → Thr f → ∀ st, All (lowS n f.cx st) (OkS f st)
theorem ZDp {v : Expr} {ts : List Expr} {n line : Nat} {p : Pos} {env : Env} : swapsWithSole [.Tuple ts n p] v line env = pure false := by
  show swapsWith v (some (.Tuple ts n p)) line env = pure false
  unfold swapsWith
  dsimp only
  split <;> rfl
theorem Hx {v a k : Expr} {line : Nat} {p : Pos} {env : Env} : swapsWith v (some (.Subscript a k p)) line env = pure false := by
  unfold swapsWith
  dsimp only
  split <;> rfl
section
variable {f : Ff} {x : Str} {i j : Nat} {pos p : Pos} {dep n : Nat} {e v t : Expr}
theorem ZEx (IC : ∀ c, c.dep = dep → WfC c → Calls c) (hd : f.dep = dep) (W : WfF f) (T : Thr f) (hE : ∀ pe, All (lowE n f.cx pe) (OkF f pe)) : All (lowAsg (lowE n f.cx) f.cx v (view t)) (OkS f (.Assign [t] v pos)) := by
  have ve := JU t
  revert ve
  cases view t with
  | name x p =>
    intro ve
    replace ve : Expr.Name x p = t := ve
    subst ve
    refine .bind fun i hv => ?_
    exact .map fun e he => ZAy IC hd W T hv e he
  | tuple ts k p =>
    intro ve
    replace ve : Expr.Tuple ts k p = t := ve
    subst ve
    refine .ite fun c => .bind fun is lv => .map fun e he => ZDz W T lv (hE v e he) ZDp ?_
    have vv := JU v
    revert vv c
    cases view v with
    | call => exact fun _ vv => vv ▸ rfl
    | name => exact fun _ vv => vv ▸ rfl
    | sub => exact fun _ vv => vv ▸ rfl
    | _ => exact fun c => nomatch c
  | sub a k p =>
    intro ve
    replace ve : Expr.Subscript a k p = t := ve
    subst ve
    refine .bind fun x hx => .bind fun i hv => .bind fun k' hk => .cond (fun q => .so ?_) fun _ => .map fun v' hv' => ?_
    · obtain ⟨np, rfl⟩ := Jo a x hx
      obtain ⟨y, ci, cp, rfl, hy⟩ := Xq q
      cases y with
      | bool b => cases (show b = true from hy); exact ZCd W T hv (hE k k' hk)
      | _ => exact nomatch hy
    · obtain ⟨np, rfl⟩ := Jo a x hx
      exact ZDh W T hv (hE k k' hk) (hE v v' hv') Hx
  | _ => exact fun _ => .no
theorem app_ok {a : Expr} {ap np : Pos} (W : WfF f) (T : Thr f) (hl : (ap.endLine == p.line) = true) (hv : f.cx.var x = some i) (hE : ∀ pe, All (lowE n f.cx pe) (OkF f pe)) : All (lowApp (lowE n f.cx) f.cx i a) (OkS f (.Expr (.Call (.Attribute (.Name x np) "append" ap) [a] [] p) pos)) := by
  exact .map fun a' ha => Uz W (ZAu W T hl hv (hE a a' ha)) _
theorem ZGp {a : Expr} {as : List Expr} {m : Str} {ap : Pos} (W : WfF f) (T : Thr f) (hl : (ap.endLine == p.line) = true) (hE : ∀ pe, All (lowE n f.cx pe) (OkF f pe)) : All (lowRecv (lowE n f.cx) f.cx m as (view a)) (OkS f (.Expr (.Call (.Attribute a m ap) as [] p) pos)) := by
  have va := JU a
  revert va
  cases view a with
  | name x np =>
    intro va
    replace va : Expr.Name x np = a := va
    subst va
    rcases as with _ | ⟨a, _ | ⟨a2, as⟩⟩
    · refine .ite fun q => .map fun i hv => ?_
      rw [beq_iff_eq.mp q]; exact ZBj W hl hv
    · refine .bind fun i hv => .ite fun q => ?_
      rw [beq_iff_eq.mp q]; exact app_ok W T hl hv hE
    · exact .no
  | _ => exact fun _ => .no
theorem ZFg (IC : ∀ c, c.dep = dep → WfC c → Calls c) (hd : f.dep = dep) (W : WfF f) (T : Thr f) (hE : ∀ pe, All (lowE n f.cx pe) (OkF f pe)) : All (lowExpr (lowE n f.cx) f.cx e (view e)) (OkS f (.Expr e pos)) := by
  have ve := JU e
  revert ve
  cases view e with
  | call g as kws p =>
    intro ve
    replace ve : Expr.Call g as kws p = e := ve
    have vg := JU g
    show All (lowExpr2 (lowE n f.cx) f.cx e as kws p (view g)) _
    revert vg
    cases view g with
    | attr a m ap =>
      intro vg
      replace vg : Expr.Attribute a m ap = g := vg
      subst vg
      subst ve
      refine .ite fun c => ?_
      have c := Bool.and_eq_true_iff.mp c
      cases kws with
      | cons => exact nomatch c.1
      | nil => exact ZGp W T c.2 hE
    | name g' gp =>
      intro vg
      replace vg : Expr.Name g' gp = g := vg
      subst vg
      subst ve
      exact .map fun e he => Gk W (hE _ e he)
    | _ => exact fun _ => .no
  | _ => exact fun _ => .no
theorem ZGq (W : WfF f) (T : Thr f) (hE : ∀ pe, All (lowE n f.cx pe) (OkF f pe)) : All (lowRet (lowE n f.cx) f.cx e (view e)) (OkS f (.Return (some e) pos)) := by
  have ve := JU e
  have plain : All ((lowE n f.cx e).map TC.S.ret) (OkS f (.Return (some e) pos)) := .map fun e' he => WQ W T (hE e e' he)
  revert ve
  cases view e with
  | name x p =>
    intro ve
    replace ve : Expr.Name x p = e := ve
    show All ((f.cx.var x).elim ((lowE n f.cx e).map TC.S.ret) fun i => some (TC.S.retm i)) _
    cases q : f.cx.var x with
    | none => exact plain
    | some i => exact .so (ve ▸ Hm W q)
  | comp elt gs sc p =>
    intro ve
    exact .map fun e' he => Uz W (WQ W T (hE e e' he)) _
  | _ => exact fun _ => plain
theorem ZDa (W : WfF f) (T : Thr f) : All (lowRaise f.cx (view e)) (OkS f (.Raise (some e) none pos)) := by
  have ve := JU e
  revert ve
  cases view e with
  | call g as kws p =>
    intro ve
    replace ve : Expr.Call g as kws p = e := ve
    subst ve
    rcases as with _ | ⟨a, _ | ⟨a2, as⟩⟩
    · exact .no
    · cases kws with
      | cons => exact .no
      | nil =>
        refine .ite fun c => .bind fun x hx => .ite fun hg => .map fun k hc => ?_
        obtain ⟨np, rfl⟩ := Jo g x hx
        obtain ⟨y, k, q, rfl, hy⟩ := Xq c
        cases y with
        | str msg => exact Hl W T hg hc
        | _ => exact nomatch hy
    · exact .no
  | _ => exact fun _ => .no
theorem ZHh {hs : List ExceptHandler} {body : List Stmt} (W : WfF f) (T : Thr f) (hB : ∀ sts, All (lowSs (lowS n f.cx) sts) (OkB f sts)) : All (lowTry (lowS n f.cx) f.cx body hs) (OkS f (.Try body hs [] [] pos)) := by
  rcases hs with _ | ⟨⟨t, x, h, p⟩, _ | ⟨h2, hs⟩⟩
  · exact .no
  · cases t with
    | none => exact .no
    | some t =>
      cases x with
      | none => exact .no
      | some x =>
        refine .ite fun c => .bind fun y hy => .ite fun hg => .bind fun k hc => .bind fun i hv => .bind fun b hb => .map fun h' hh => ?_
        have c := Bool.and_eq_true_iff.mp c
        obtain ⟨tp, rfl⟩ := Jo t y hy
        cases h with
        | nil => exact nomatch c.2
        | cons h0 h => exact ZDv W T hg (beq_iff_eq.mp c.1) hc hv (hB _ b hb) (hB _ h' hh)
  · cases t <;> cases x <;> exact .no
theorem for_ok {tgt : Tgt} {b : Ss} {body : List Stmt} (W : WfF f) (T : Thr f) (hE : ∀ pe, All (lowE n f.cx pe) (OkF f pe)) (ht : lowTgt f.cx (view t) = some tgt) (hb : OkB f body b) : All (lowFor (lowE n f.cx) f.cx e tgt b (view e)) (OkS f (.For t e body [] pos)) := by
  have ve := JU e
  have plain : All ((lowE n f.cx e).map fun src => TC.S.loop tgt src b) (OkS f (.For t e body [] pos)) := .map fun e' he => HN W T ht (hE e e' he) (Vl e e' he) hb
  revert ve
  cases view e with
  | name x p =>
    intro ve
    replace ve : Expr.Name x p = e := ve
    exact .map fun i hv => ve ▸ Wt W T ht hv hb
  | _ => exact fun _ => plain
theorem ZHd (IC : ∀ c, c.dep = dep → WfC c → Calls c) (IS : SS dep n) : SS dep (n + 1) := fun f hd W T st => by
  have hE' : ∀ f' : Ff, f'.dep = f.dep → f'.cx = f.cx → WfF f' → Thr f' → ∀ pe, All (lowE n f.cx pe) (OkF f' pe) := fun f' d c W' T' pe e he σ s R => WU IC n (f'.ec σ s) (d.trans hd) (R.wf W' T') pe e (by show lowE n f'.cx pe = some e; rw [c]; exact he)
  have hE := hE' f rfl rfl W T
  have hB : ∀ sts, All (lowSs (lowS n f.cx) sts) (OkB f sts) := fun sts ts h f' d c W' T' => ZEu W' (fun st => IS f' (d.trans hd) W' T' st) ts (c ▸ h)
  have hS : ∀ sts, All (lowSs (lowS n f.cx) sts) (OkSs f sts) := fun sts ts h => hB sts ts h f rfl rfl W T
  show All (lowSV (lowE n f.cx) (lowS n f.cx) f.cx st) (OkS f st)
  cases st with
  | Assign ts v pos =>
    rcases ts with _ | ⟨t, _ | ⟨t2, ts⟩⟩
    · exact .no
    · exact ZEx IC hd W T hE
    · exact .no
  | Expr e pos => exact ZFg IC hd W T hE
  | If t a b pos => exact .bind fun c h1 => .bind fun a' h2 => .map fun b' h3 => ZCc W (hE t c h1) (hS a a' h2) (hS b b' h3)
  | For t iter body orelse pos =>
    cases orelse with
    | nil => exact .bind fun tgt ht => .bind fun b hb => for_ok W T hE ht (hB body b hb)
    | cons => exact .no
  | While c body orelse pos =>
    cases orelse with
    | nil => exact .bind fun c' hc => .map fun b hb => ZEg W T (fun f' d e W' T' => hE' f' d e W' T' c c' hc) (hB body b hb)
    | cons => exact .no
  | Return e pos =>
    cases e with
    | none => exact .no
    | some e => exact ZGq W T hE
  | Raise e c pos =>
    cases e with
    | none => exact .no
    | some e =>
      cases c with
      | none => exact ZDa W T
      | some => exact .no
  | Try body hs orelse fin pos =>
    cases orelse with
    | nil =>
      cases fin with
      | nil => exact ZHh W T hB
      | cons => exact .no
    | cons => exact .no
  | _ => exact .no
theorem ss_all (IC : ∀ c, c.dep = dep → WfC c → Calls c) (n : Nat) : SS dep n := by
  induction n with
  | zero => exact fun f _ _ _ st => .no
  | succ n ih => exact ZHd IC ih
end
end TC

namespace TC
open PySem PySem.W PyProof.Rows

theorem Xj {names : List (Str × NameKind)} : ∀ {n : Nat} {x : Str} {i : Nat}, (x, i) ∈ slotsOf names n → n ≤ i ∧ ((x, NameKind.local) ∈ names ∨ (x, NameKind.cell) ∈ names) := by
  induction names with
  | nil => intro n x i h; cases h
  | cons p r ih =>
    intro n x i h
    unfold slotsOf at h
    cases q : (p.2 == NameKind.local || p.2 == NameKind.cell) with
    | true =>
      rw [q] at h
      rcases List.mem_cons.mp h with e | h
      · cases e
        simp only [Bool.or_eq_true, beq_iff_eq] at q
        exact ⟨Nat.le_refl _, q.imp (fun e => by rw [← e]; exact .head _) fun e => by rw [← e]; exact .head _⟩
      · exact ⟨Nat.le_of_succ_le (ih h).1, (ih h).2.imp (.tail _) (.tail _)⟩
    | false => rw [q] at h; exact ⟨(ih h).1, (ih h).2.imp (.tail _) (.tail _)⟩
theorem Vy {names : List (Str × NameKind)} : ∀ {n : Nat} {x y : Str} {i : Nat}, (x, i) ∈ slotsOf names n → (y, i) ∈ slotsOf names n → x = y := by
  induction names with
  | nil => intro n x y i h; cases h
  | cons p r ih =>
    intro n x y i h h'
    unfold slotsOf at h h'
    cases q : (p.2 == NameKind.local || p.2 == NameKind.cell) with
    | true =>
      rw [q] at h h'
      rcases List.mem_cons.mp h with e | h <;> rcases List.mem_cons.mp h' with e' | h'
      · cases e; cases e'; rfl
      · cases e; exact absurd (Xj h').1 (Nat.lt_irrefl _)
      · cases e'; exact absurd (Xj h).1 (Nat.lt_irrefl _)
      · exact ih h h'
    | false => rw [q] at h h'; exact ih h h'
theorem UI {kd : Str → Option NameKind} {b : List (Str × Value)} : ∀ {m : Str → Option Value} {x : Str}, (∀ p ∈ b, p.1 ≠ x) → bindL kd b m x = m x := by
  induction b with
  | nil => exact fun _ => rfl
  | cons p r ih =>
    intro m x h
    unfold bindL
    rw [ih fun p hp => h p (.tail _ hp)]
    split
    · exact if_neg fun e => h p (.head _) e.symm
    · rfl
theorem ZBc {kd : Str → Option NameKind} {b : List (Str × Value)} : ∀ {m : Str → Option Value} {x : Str} {v : Value}, (b.map (·.1)).Nodup → (x, v) ∈ b → kd x = some .local → bindL kd b m x = some v := by
  induction b with
  | nil => exact fun _ h => nomatch h
  | cons p r ih =>
    intro m x v nd h hk
    obtain ⟨n1, n2⟩ := List.nodup_cons.mp nd
    unfold bindL
    rcases List.mem_cons.mp h with e | h
    · cases e
      rw [UI fun p hp e => n1 (List.mem_map.mpr ⟨p, hp, e⟩), if_pos hk]
      exact if_pos rfl
    · exact ih n2 h hk
theorem UH {kd : Str → Option NameKind} {b : List (Str × Value)} : ∀ {m : Str → Option Value} {x : Str}, (∀ p ∈ b, p.1 ≠ x) → bindC kd b m x = m x := by
  induction b with
  | nil => exact fun _ => rfl
  | cons p r ih =>
    intro m x h
    unfold bindC
    rw [ih fun p hp => h p (.tail _ hp)]
    split
    · rfl
    · exact if_neg fun e => h p (.head _) e.symm
theorem ZBb {kd : Str → Option NameKind} {b : List (Str × Value)} : ∀ {m : Str → Option Value} {x : Str} {v : Value}, (b.map (·.1)).Nodup → (x, v) ∈ b → kd x ≠ some .local → bindC kd b m x = some v := by
  induction b with
  | nil => exact fun _ h => nomatch h
  | cons p r ih =>
    intro m x v nd h hk
    obtain ⟨n1, n2⟩ := List.nodup_cons.mp nd
    unfold bindC
    rcases List.mem_cons.mp h with e | h
    · cases e
      rw [UH fun p hp e => n1 (List.mem_map.mpr ⟨p, hp, e⟩), if_neg hk]
      exact if_pos rfl
    · exact ih n2 h hk
theorem ZBh {names : List (Str × NameKind)} {n : Nat} (nd : (names.map (·.1)).Nodup) : ((cellsFrom n names []).map (·.1)).Nodup := by
  rw [Jg]
  unfold List.Nodup
  rw [List.pairwise_reverse]
  exact (nd.sublist (List.filter_sublist.map _)).imp Ne.symm
theorem UJ {names : List (Str × NameKind)} {n : Nat} (nd : (names.map (·.1)).Nodup) {x : Str} (h : names.lookup x = some .cell) : ∃ c, (cellsFrom n names []).lookup x = some c := by
  obtain ⟨c, hc⟩ := Jm names n x (mem_of_lookup h)
  exact ⟨c, JH (ZBh nd) hc⟩
structure Fits (fns cls : List (Str × Nat)) (cst : List (Str × Int)) (fn : Fn) (ow : List Nat) (params : Arguments) (scope : Scope) (body : List Stmt) (b : Ss) : Prop where
  kind : scope.kind = .function
  gen : scope.isGenerator = false
  co : scope.isCoroutine = false
  nd : (scope.names.map (·.1)).Nodup
  free : ∀ p ∈ scope.names, p.2 ≠ .free
  args : (params.args.map fun a => (slotsOf scope.names 0).lookup a.arg) = (List.range fn.np).map some
  ns : (slotsOf scope.names 0).length = fn.ns
  low : lowSs (lowS 40 { kd := scope.names, tb := slotsOf scope.names 0, nx := fn.ns, fns := fns, cls := cls, cst := cst, ow := ow }) body = some b
theorem ZFm {fns cls : List (Str × Nat)} {cst : List (Str × Int)} {fn : Fn} {ow : List Nat} {params : Arguments} {scope : Scope} {body : List Stmt} : All (fnMatch fns cls cst fn ow params scope body) (Fits fns cls cst fn ow params scope body) := .ite fun q b h => by
  simp only [Bool.and_eq_true, beq_iff_eq, Bool.not_eq_true', decide_eq_true_eq, List.all_eq_true, bne_iff_ne] at q
  obtain ⟨⟨⟨⟨⟨⟨⟨⟨⟨⟨⟨q1, q2⟩, q3⟩, q4⟩, q5⟩, q6⟩, q7⟩, q8⟩, q9⟩, q10⟩, q11⟩, q12⟩ := q
  exact ⟨q1, q2, q3, q4, q5, q11, q12, h⟩
theorem GV {names : List (Str × NameKind)} {args : List Arg} {np : Nat} (h : (args.map fun a => (slotsOf names 0).lookup a.arg) = (List.range np).map some) :
    (args.map (·.arg)).length = np ∧ (args.map (·.arg)).Nodup ∧ ∀ i nm, (args.map (·.arg))[i]? = some nm → (slotsOf names 0).lookup nm = some i := by
  have l : args.length = np := by have := congrArg List.length h; rwa [List.length_map, List.length_map, List.length_range] at this
  have e : (args.map (·.arg)).map ((slotsOf names 0).lookup ·) = (List.range np).map some := by rw [List.map_map]; exact h
  refine ⟨by rw [List.length_map, l], ?_, fun i nm q => ?_⟩
  · have nd : List.Nodup ((List.range np).map some) := List.Pairwise.map some (fun a b ne e => ne (Option.some.inj e)) List.nodup_range
    rw [← e] at nd
    exact List.Pairwise.of_map _ (fun a b ne e => ne (by rw [e])) nd
  · have lt : i < np := by have := (List.getElem?_eq_some_iff.mp q).1; rwa [List.length_map, l] at this
    have := congrArg (·[i]?) e
    rw [List.getElem?_map] at this q
    rw [List.getElem?_map, q, List.getElem?_map, List.getElem?_range lt] at this
    exact Option.some.inj this
theorem zip_at {α β : Type} {a : List α} : ∀ {b : List β} {p : α × β}, p ∈ a.zip b → ∃ i : Nat, a[i]? = some p.1 ∧ b[i]? = some p.2 := by
  induction a with
  | nil => exact fun h => nomatch h
  | cons x a ih =>
    intro b p h
    cases b with
    | nil => exact nomatch h
    | cons y b =>
      rcases List.mem_cons.mp h with rfl | h
      · exact ⟨0, rfl, rfl⟩
      · obtain ⟨i, h1, h2⟩ := ih h; exact ⟨i + 1, h1, h2⟩
theorem VX {α β : Type} {a : List α} : ∀ {b : List β} {i : Nat} {x : α} {y : β}, a[i]? = some x → b[i]? = some y → (x, y) ∈ a.zip b := by
  induction a with
  | nil => exact fun h => nomatch h
  | cons x a ih =>
    intro b i x y h1 h2
    cases b with
    | nil => exact nomatch h2
    | cons y b =>
      cases i with
      | zero => cases h1; cases h2; exact .head _
      | succ i => exact .tail _ (ih (i := i) h1 h2)
theorem UO {names : List (Str × NameKind)} (nd : (names.map (·.1)).Nodup) {x : Str} {i : Nat} (h : (slotsOf names 0).lookup x = some i) : names.lookup x = some .local ∨ names.lookup x = some .cell :=
  (Xj (mem_of_lookup h)).2.imp (JH nd) (JH nd)
theorem VR.outer {ca : List Addr} {h₁ : Heap} {pls hid fr : AP} {h : Heap} {v : Value} {u : V} (r : VR ca h₁ (fun b => pls b ∨ hid b) fr h v u) : VR ca h₁ hid fr h v u := by
  cases u with
  | d x => exact PR.anti r fun b q => .inr q
  | own x => obtain ⟨a, e, n, q⟩ := r; exact ⟨a, e, n, q.move (fun b o n e => ⟨fun q => n (q.imp_right .inr), e⟩) fun o e => e⟩
  | _ => exact r
end TC

namespace TC
open PySem PySem.W PyProof.Rows

noncomputable abbrev Cf.enter (c : Cf) (m : Nat) (cx : Cx) (env : Env) (s : Shared) (E : Value → Shared → Prop) : Ff := { G := c.G, dep := m, cx := cx, env := env, own := env.cells, s₀ := s, hid0 := c.hid, envs0 := c.envs, hm := c.hm, A := c.A.deeper env, X := fun k _ => c.X k, E := E }
noncomputable abbrev cxOf (G : Gl) (fn : Fn) (ow : List Nat) (names : List (Str × NameKind)) : Cx := { kd := names, tb := slotsOf names 0, nx := fn.ns, fns := G.fns, cls := G.cls, cst := G.cst, ow := ow }
noncomputable abbrev envOf (d : DefRec) (pm code doc : Value) (L z : Addr) : Env := callEnvC (Calls.docDef d.name d.params d.body d.scope pm code doc) L z
section
variable {c : Cf} {s s₁ : Shared} {m : Nat} {fn : Fn} {ow : List Nat} {d : DefRec} {pm code doc : Value} {z : Addr} {vs : List Value} {us : List V} {E : Value → Shared → Prop}
theorem ZBr (W : WfC c) (a : AtC c s) (hd : c.dep = m + 1) (F : Fits c.G.fns c.G.cls c.G.cst fn ow d.params d.scope d.body fn.body) (newp : ∀ b, pls (envOf d pm code doc s.heap.objs.size z) (envOf d pm code doc s.heap.objs.size z).cells b → s.heap.get? b = none) : WfF (c.enter m (cxOf c.G fn ow d.scope.names) (envOf d pm code doc s.heap.objs.size z) s E) := by
  have h1 := W.depth
  have h2 := W.units
  rw [hd] at h1 h2
  have cl : ∀ x, d.scope.names.lookup x = some .cell → ∃ b, (envOf d pm code doc s.heap.objs.size z).cells.lookup x = some b := fun x q => UJ F.nd q
  have nf : ∀ x, d.scope.names.lookup x ≠ some .free := fun x q => F.free _ (mem_of_lookup q) rfl
  refine ⟨W.ok, ?_, ?_, Around.frames_deeper a.stk.frames, rfl, a.stk.funs, a.stk.base, W.sub, a.dom, newp, ⟨F.kind, rfl, rfl, rfl, rfl, rfl, rfl, fun x q => q.elim (cl x) fun q => absurd q (nf x), fun x q => absurd q (nf x)⟩, fun x b e => e, fun x y i h1 h2 => Vy (mem_of_lookup h1) (mem_of_lookup h2), fun x i hv => ?_⟩
  · show c.A.depth + 1 + m ≤ 900; lia
  · show c.A.units + 3 + 20 * m ≤ 9000; lia
  · exact (UO F.nd (Jl hv).2.1).imp_right fun z => ⟨z, cl x z⟩
theorem pad_at {n i : Nat} {u : V} (h : (us.map some ++ List.replicate n none)[i]? = some (some u)) : us[i]? = some u := by
  by_cases lt : i < us.length
  · rw [List.getElem?_append_left (by rw [List.length_map]; exact lt), List.getElem?_map] at h
    obtain ⟨u', h', e⟩ := Option.map_eq_some_iff.mp h
    cases e; exact h'
  · rw [List.getElem?_append_right (by rw [List.length_map]; exact Nat.le_of_not_lt lt), List.getElem?_replicate] at h
    split at h <;> cases h
theorem ZBq (W : WfC c) (a : AtC c s) (F : Fits c.G.fns c.G.cls c.G.cst fn ow d.params d.scope d.body fn.body) (lu : us.length = fn.np) (lp : fn.np ≤ fn.ns) (r : Rs (fun v u => VR c.G.ca s.heap c.hid c.fr s.heap v u ∧ argV u = some u) vs us)
    (x : InCallC s (envOf d pm code doc s.heap.objs.size z).locals (bindL (envOf d pm code doc s.heap.objs.size z).kindOf ((d.params.args.map (·.arg)).zip vs) fun _ => none) (envOf d pm code doc s.heap.objs.size z).cells (bindC (envOf d pm code doc s.heap.objs.size z).kindOf ((d.params.args.map (·.arg)).zip vs) fun _ => none) s₁)
    (newp : ∀ b, pls (envOf d pm code doc s.heap.objs.size z) (envOf d pm code doc s.heap.objs.size z).cells b → s.heap.get? b = none) :
    StR (c.enter m (cxOf c.G fn ow d.scope.names) (envOf d pm code doc s.heap.objs.size z) s E) ⟨fun _ => False, fun _ _ => False, us.map some ++ List.replicate (fn.ns - fn.np) none⟩ s₁ := by
  have keep := x.toInCall.keep
  have sm : Same s s₁ := by obtain ⟨h1, tk1, es⟩ := x.toInCall.same; rw [es]; exact ⟨rfl, rfl⟩
  refine ⟨Ext.of keep, sm, ⟨F.kind, ⟨_, x.toInCall.ns⟩, fun y b e => ⟨_, x.cell y b e⟩, fun y b e => e, fun y b e w e' => name_of_addr x.apart (mem_of_lookup e') (mem_of_lookup e)⟩, a.hok.at fun b _ o e => keep b o e, fun _ q => q.elim, fun _ q => q.elim, fun _ _ q => q.elim, fun _ _ _ _ q => q.elim, ?_, fun y i hy u hu => ?_⟩
  · show (us.map some ++ List.replicate (fn.ns - fn.np) none).length = fn.ns
    rw [List.length_append, List.length_map, List.length_replicate]; lia
  · have hi := pad_at hu
    obtain ⟨a1, a2, a3⟩ := GV F.args
    obtain ⟨v, hv, rv, au⟩ := r.at hi
    have li : i < (d.params.args.map (·.arg)).length := by rw [a1, ← lu]; exact (List.getElem?_eq_some_iff.mp hi).1
    have hn := List.getElem?_eq_getElem li
    have ey : y = (d.params.args.map (·.arg))[i] := Vy (mem_of_lookup hy) (mem_of_lookup (a3 i _ hn))
    rw [← ey] at hn
    have mem := VX hn hv
    have nd : (((d.params.args.map (·.arg)).zip vs).map (·.1)).Nodup := by
      rw [List.map_fst_zip (Nat.le_of_eq (by rw [a1, ← lu, r.length]))]; exact a2
    refine ⟨v, ?_, ?_⟩
    · rcases UO F.nd hy with q | q
      · exact .inl ⟨q, _, x.toInCall.ns, ZBc nd mem q⟩
      · obtain ⟨b, hb⟩ := UJ (n := s.heap.objs.size + 1) F.nd q
        refine .inr ⟨.inl q, b, hb, ?_⟩
        have := x.cell y b hb
        rw [ZBb nd mem (fun w => by have := q.symm.trans w; cases this)] at this
        exact this
    · cases u with
      | d w => exact PR.move (fun b o n e => ⟨fun q => q.elim id fun q => q.elim (fun q => JE e (newp b q)) n, keep b o e⟩) rv
      | brw w => exact rv
      | exc k => exact ExcAt.ext rv (Ext.of (fr := c.fr) keep)
      | own w => exact nomatch au
      | rg n => exact nomatch au
theorem Hp (IC : ∀ c : Cf, c.dep = m → WfC c → Calls c) (hd : c.dep = m + 1) (W : WfC c) {f : Nat} {K : V → Prop} {Q : Value → Shared → Prop} (hf : c.G.fa[f]? = some z) (a : AtC c s) (r : Rs (fun v u => VR c.G.ca s.heap c.hid c.fr s.heap v u ∧ argV u = some u) vs us) (w : Φ c c.hm f us K c.X)
    (k : ∀ v s' u, AtC c s' → Ext c.fr s.heap s'.heap → VR c.G.ca s.heap c.hid c.fr s'.heap v u → K u → Q v s') : codeAny c.M c.A (.call (.ref z) ⟨vs, []⟩) (fun r s' => match r with | .ok (.ret v) => Q v s' | .ok _ => False | .error e => c.E e s') s := by
  obtain ⟨d, fn, ow, hdd, hns, htab, hmt, hbind⟩ := W.ok.fok f z hf
  have F := ZFm fn.body hmt
  have w : got (c.G.tab[f]?) fun fn => (us.length = fn.np ∧ fn.np ≤ fn.ns) ∧ wpSs (wpCall c.G.tab m) c.hm fn.body (us.map some ++ List.replicate (fn.ns - fn.np) none) (outK K) (fun k _ => c.X k) := by
    have w := w; unfold Φ at w; rw [hd] at w; exact w
  rw [htab] at w
  obtain ⟨⟨lu, lp⟩, w⟩ := w
  obtain ⟨z', o, pm, code, doc, e1, e2, e3, e4⟩ := W.ok.top.fn d hdd
  have ez : z' = z := by
    have := mg_of W.ok.inK W.ok.top.g hns
    rw [this] at e1; cases e1; rfl
  subst ez
  have b := a.stk.base
  have lv : vs.length = fn.np := by rw [r.length, lu]
  refine codeAny_call_cells (fd := Calls.docDef d.name d.params d.body d.scope pm code doc) ?_ (b _ _ e2) e3 (W.ok.top.nolimit.keeps b) (e4.keeps b) rfl (hbind pm code doc vs lv) rfl ?_ (fun s₁ x => ?_) F.co F.gen F.kind
  · have := W.depth; have : recursionLimit = 1000 := rfl; lia
  · intro p hp
    obtain ⟨i, h1, h2⟩ := zip_at hp
    refine (UO F.nd ((GV F.args).2.2 i p.1 h1)).imp_right fun q => ⟨q, ?_⟩
    obtain ⟨b, hb⟩ := UJ (n := s.heap.objs.size + 1) F.nd q
    exact Option.isSome_iff_exists.mpr ⟨b, hb⟩
  · have newp : ∀ b, pls (envOf d pm code doc s.heap.objs.size z') (envOf d pm code doc s.heap.objs.size z').cells b → s.heap.get? b = none := fun b q => by
      rcases q with rfl | ⟨y, q⟩
      · exact JW _
      · exact Heap.get?_none_of_le (Nat.le_of_lt (x.above y b (mem_of_lookup q)))
    have ext : ∀ {f : Ff} {h' : Heap}, f.fr0 = c.fr → f.h₀ = s.heap → WfF f → Ext f.fr f.h₀ h' → Ext c.fr s.heap h' := fun e1 e2 W' q => by
      rw [← e1, ← e2]
      exact q.down (Ext.refl _ _) fun b q n => ((QQ W').mp q).elim (fun q => W'.newp b (.inl q)) fun q => absurd q n
    have Wf' := fun E => ZBr (E := E) (pm := pm) (code := code) (doc := doc) W a hd F newp
    have R0 := fun E => ZBq (m := m) (E := E) W a F lu lp r x newp
    refine ZEu (Wf' _) (fun st => ss_all IC 40 _ rfl (Wf' _) ?_ st) fn.body F.low _ s₁ _ _ (R0 _) w ⟨fun s' σ' R' ad hk => k .none s' (.d .none) (a.go R'.ext R'.same) R'.ext (PR.non ..) hk, fun s' v u σ' ρ R' rv hk => k v s' u (a.go R'.ext R'.same) R'.ext rv.outer hk⟩
    intro e s' j C fl σ' R' hC hl Fl hx
    refine ZCe (R'.sk (Wf' _)) rfl rfl (R'.extF (Wf' _)) hl Fl fun h2 x2 F2 => ?_
    have x3 := ext rfl rfl (Wf' _) x2
    exact W.thr e { s' with heap := h2 } j ⟨C, hC, F2.back a.ext, a.ext.trans x3⟩ (a.same.trans R'.same) hx
theorem sc_all (m : Nat) : ∀ c : Cf, c.dep = m → WfC c → Calls c := by
  induction m with
  | zero => intro c hd W s f z vs us K Q hf a r w k; unfold Φ at w; rw [hd] at w; exact w.elim
  | succ m ih => exact fun c hd W s f z vs us K Q hf a r w k => wpAny_call (Hp ih hd W hf a r w k)
end
end TC

namespace TC
open PySem PySem.W PyProof.Rows


noncomputable def recAt (p : Program) (k : Nat) : DefRec := ((recsOf p)[k]?).getD ⟨Str.empty, default, [], default, default⟩
structure FnOk (p : Program) (fns cls : List (Str × Nat)) (cst : List (Str × Int)) (k : Nat) (name : Str) (fn : Fn) (ow : List Nat) : Prop where
  there : ((recsOf p)[k]?).isSome = true
  name : (recAt p k).name = name
  low : fnMatch fns cls cst fn ow (recAt p k).params (recAt p k).scope (recAt p k).body = some fn.body
  bind : ∀ (pm code doc : Value) (vals : List Value), vals.length = fn.np → bindArgs (Calls.docDef (recAt p k).name (recAt p k).params (recAt p k).body (recAt p k).scope pm code doc) ⟨vals, []⟩ = pure (((recAt p k).params.args.map (·.arg)).zip vals)
theorem FnOk.mem {p : Program} {fns cls : List (Str × Nat)} {cst : List (Str × Int)} {k : Nat} {name : Str} {fn : Fn} {ow : List Nat} (x : FnOk p fns cls cst k name fn ow) : recAt p k ∈ recsOf p := by
  obtain ⟨d, hd⟩ := Option.isSome_iff_exists.mp x.there
  unfold recAt; rw [hd]; exact List.mem_of_getElem? hd

noncomputable def isIntO (i : Int) : Option (Option Value) → Bool
  | some (some (.int j _)) => j == i
  | _ => false
noncomputable def checkK (K : Frag) (fn : List Str) (fa : List Addr) (cn : List Str) (ca : List Addr) (cst : List (Str × Int)) : Bool :=
  (fn.zip fa).all (fun q => nsIn K mainGlobals q.1 == some (some (.ref q.2))) && (cn.zip ca).all (fun q => nsIn K mainGlobals q.1 == some (some (.ref q.2)))
    && cst.all (fun q => isIntO q.2 (nsIn K mainGlobals q.1)) && usedNames.all (fun x => nsIn K mainGlobals x == some none) && ca.all (ownOk1 K)
    && (List.range ca.length).all fun c => (List.range ca.length).all fun c' => mroIn K (ca.getD c 0) (.ref (ca.getD c' 0)) == some (c' == 0 || c == c')

noncomputable def checkO (p : Program) (cn : List Str) : Bool := cn.all fun x => (ownsOf p).any fun o => o.name == x && o.bm == bmV && o.newId == "ValueError.__new__"
theorem XD {l : List Str} {x : Str} {k : Nat} (h : l.zipIdx.lookup x = some k) : l[k]? = some x := by
  have := mem_of_lookup h
  exact List.mk_mem_zipIdx_iff_getElem?.mp this
theorem VW {α β : Type} {a : List α} {b : List β} {k : Nat} {x : α} (l : a.length = b.length) (h : a[k]? = some x) : ∃ y, b[k]? = some y ∧ (x, y) ∈ a.zip b := by
  have lt := (List.getElem?_eq_some_iff.mp h).1
  have hb : b[k]? = some b[k] := List.getElem?_eq_getElem (l ▸ lt)
  exact ⟨_, hb, VX h hb⟩

noncomputable def AllZ {α β : Type} (P : Nat → α → β → Prop) : Nat → List α → List β → Prop
  | k, x :: xs, f :: fs => P k x f ∧ AllZ P (k + 1) xs fs
  | _, _, _ => True
theorem AllZ.cons {α β : Type} {P : Nat → α → β → Prop} {k : Nat} {x : α} {f : β} {xs : List α} {fs : List β} (h : P k x f) (r : AllZ P (k + 1) xs fs) : AllZ P k (x :: xs) (f :: fs) := ⟨h, r⟩
theorem AllZ.nil {α β : Type} {P : Nat → α → β → Prop} {k : Nat} : AllZ P k [] [] := trivial
theorem AllZ.at {α β : Type} {P : Nat → α → β → Prop} {xs : List α} : ∀ {n : Nat} {fs : List β}, AllZ P n xs fs → ∀ k x f, xs[k]? = some x → fs[k]? = some f → P (n + k) x f := by
  induction xs with
  | nil => exact fun _ k x f h => nomatch h
  | cons y xs ih =>
    intro n fs h k x f h1 h2
    cases fs with
    | nil => exact nomatch h2
    | cons g fs =>
      cases k with
      | zero => cases h1; cases h2; exact h.1
      | succ k => have := ih h.2 k x f h1 h2; rw [Nat.add_assoc, Nat.add_comm 1 k] at this; exact this
theorem len1 {vs : List Value} (h : vs.length = 1) : ∃ a, vs = [a] := by rcases vs with _ | ⟨a, _ | ⟨b, vs⟩⟩ <;> first | exact ⟨a, rfl⟩ | exact nomatch h
theorem len2 {vs : List Value} (h : vs.length = 2) : ∃ a b, vs = [a, b] := by
  cases vs with
  | nil => exact nomatch h
  | cons a vs => obtain ⟨b, rfl⟩ := len1 (Nat.succ.inj h); exact ⟨a, b, rfl⟩
theorem len3 {vs : List Value} (h : vs.length = 3) : ∃ a b c, vs = [a, b, c] := by
  cases vs with
  | nil => exact nomatch h
  | cons a vs => obtain ⟨b, c, rfl⟩ := len2 (Nat.succ.inj h); exact ⟨a, b, c, rfl⟩
theorem len4 {vs : List Value} (h : vs.length = 4) : ∃ a b c d, vs = [a, b, c, d] := by
  cases vs with
  | nil => exact nomatch h
  | cons a vs => obtain ⟨b, c, d, rfl⟩ := len3 (Nat.succ.inj h); exact ⟨a, b, c, d, rfl⟩
theorem gl_ok {prog : Program} {w : World} {K : Frag} {B : Heap} {p : Program} {loose : List Str} {mean : ExcName → Option Value} {mg mb : Str → Option Value} (fn : List Str) (fa : List Addr) (cn : List Str) (ca : List Addr) (cst : List (Str × Int)) (tab : List Fn) (ows : List (List Nat))
    (KX : K.In B) (T : Top p loose mean mg mb B) (ck : checkK K fn fa cn ca cst = true) (co : checkO p cn = true) (l1 : fn.length = fa.length) (l2 : cn.length = ca.length) (l3 : tab.length = fa.length)
    (fz : AllZ (fun k x f => ∃ ow, FnOk p fn.zipIdx cn.zipIdx cst k x f ow) 0 fn tab) : (Gl.mk prog w K B p loose mean mg mb fn.zipIdx fa cn.zipIdx ca cst tab).Ok := by
  have fo : ∀ k x f, fn[k]? = some x → tab[k]? = some f → ∃ ow, FnOk p fn.zipIdx cn.zipIdx cst k x f ow := fun k x f h1 h2 => by have := fz.at k x f h1 h2; rw [Nat.zero_add] at this; exact this
  unfold checkK at ck
  simp only [Bool.and_eq_true, List.all_eq_true, beq_iff_eq] at ck
  obtain ⟨⟨⟨⟨⟨c1, c2⟩, c3⟩, c4⟩, c5⟩, c6⟩ := ck
  refine ⟨KX, T, fun x k h => ?_, fun x k h => ?_, fun x i h => ?_, c4, fun k a h => ?_, fun c C h => c5 C (List.mem_of_getElem? h), fun c C c' C' h h' => ?_, fun c C h => ?_⟩
  · obtain ⟨a, h1, h2⟩ := VW l1 (XD h)
    exact ⟨a, h1, c1 _ h2⟩
  · obtain ⟨a, h1, h2⟩ := VW l2 (XD h)
    exact ⟨a, h1, c2 _ h2⟩
  · have := c3 _ (mem_of_lookup h)
    unfold isIntO at this
    split at this
    · rename_i j t e
      rw [beq_iff_eq.mp this] at e
      exact ⟨t, e⟩
    · cases this
  · obtain ⟨x, h1, h2⟩ := VW l1.symm h
    have lt := (List.getElem?_eq_some_iff.mp h).1
    obtain ⟨ow, q⟩ := fo k x _ h1 (List.getElem?_eq_getElem (l3 ▸ lt))
    refine ⟨recAt p k, _, ow, q.mem, ?_, List.getElem?_eq_getElem (l3 ▸ lt), q.low, q.bind⟩
    rw [q.name]
    exact c1 _ (VX h1 h)
  · have e1 := List.getElem?_eq_some_iff.mp h
    have e2 := List.getElem?_eq_some_iff.mp h'
    have := c6 c (List.mem_range.mpr e1.1) c' (List.mem_range.mpr e2.1)
    rw [List.getD_eq_getElem?_getD, List.getD_eq_getElem?_getD, show ca[c]? = some C from h, show ca[c']? = some C' from h'] at this
    exact this
  · obtain ⟨x, h1, h2⟩ := VW l2.symm h
    have mx : x ∈ cn := List.mem_of_getElem? h1
    unfold checkO at co
    obtain ⟨o, ho, q⟩ := List.any_eq_true.mp (List.all_eq_true.mp co x mx)
    simp only [Bool.and_eq_true, beq_iff_eq] at q
    obtain ⟨⟨q1, q2⟩, q3⟩ := q
    obtain ⟨C', w, _⟩ := T.own o ho
    have e1 := w.bound
    have e2 := mg_of KX T.g (c2 _ (VX h1 h))
    rw [q1] at e1
    have e3 : C' = C := by
      have := e1.symm.trans e2
      cases this; rfl
    subst e3
    rw [q2, q3] at w
    exact ⟨_, w.own⟩

theorem ZAm {P : Params} {h : Heap} {hid : AP} {sc : List Int} : ∀ {vs : List Value}, WellAll P h vs (ofPys (sc.map .int)) → PRs hid h vs (ofInts sc) := by
  induction sc with
  | nil => intro vs x; cases x; exact .nil
  | cons i sc ih =>
    intro vs x
    cases x with
    | cons a b =>
      cases a with
      | int _ t => exact .cons (.int i t) (ih b)
theorem law_ends {G : Gl} (O : G.Ok) {s₁ : Shared} (hB : G.B = s₁.heap) {P : Params} {fa l : Addr} {f : Nat} {sc : List Int} (hf : G.fa[f]? = some fa) (W : Well P s₁.heap (.ref l) (ofPy (.list (sc.map .int)))) (hg : s₁.gens = #[])
    (w : wpCall G.tab 20 false f [.d (.list (ofInts sc))] (fun u => u = .d (.bool true)) (fun _ => False)) {c : ClaimW} {cl : Str → Option Addr} {mean : ExcName → Option Value} {args : List WData} (hn : ∀ cls, c.raises args cls = false) (hp : c.post args (.bool true) args = true) :
    codeAny (model G.prog G.w) callerA (.call (.ref fa) ⟨[.ref l], []⟩) (GoodWG c cl mean args s₁) s₁ := by
  have r : PR (fun _ => False) s₁.heap (.ref l) (.list (ofInts sc)) := by
    cases W with
    | list e r => exact .list id e (ZAm r)
  refine codeAny_mono (Hp (c := { G := G, dep := 20, cx := ⟨[], [], 0, [], [], [], []⟩, env := envOf (recAt G.p 0) .none .none .none 0 0, hm := false, A := callerA, envs := [], hid := fun _ => False, ρ := [], b := s₁, X := fun _ => False, E := fun e s' => GoodWG c cl mean args s₁ (.error e) s' }) (us := [.d (.list (ofInts sc))]) (sc_all 19) rfl
    ⟨O, (by show callerA.depth + 20 ≤ 900; decide), (by show callerA.units + 20 * 20 ≤ 9000; decide), (fun b q => nomatch q), (fun b q => q.elim), fun e s' k _ _ q => q.elim⟩ (Q := fun v s' => GoodWG c cl mean args s₁ (.ok (.ret v)) s') hf
    ⟨⟨rfl, trivial, fun b o e => hB ▸ e⟩, .inl ⟨rfl, rfl⟩, (fun b q => q.elim), Ext.refl _ _, Same.refl _⟩ (.cons ⟨r, rfl⟩ .nil) w fun v s' u a x r k => ?_) fun r s' h => ?_
  · subst k
    rw [show v = .bool true from PR.inv r]
    exact GoodW.toG ⟨.inl ⟨.bool true, .bool true, [], rfl, hn, .bool true, hp, unshared_nil⟩, fun b o e => (x b o e).1 (fun q => nomatch q), a.same.2, a.same.1.trans hg⟩
  · split at h
    · exact h
    · exact h.elim
    · exact h
end TC

namespace TC
open PySem

theorem Yv {k : Nat} (h : k < 1000) : k < lim := by rw [Qk]; lia
theorem JR {k : Int} (h : k < 1000) : k < (lim : Int) := by rw [Qk]; lia
theorem QA {k : Int} (h : -1000 < k) : -(lim : Int) < k := by rw [Qk]; lia
theorem Jz {body : V → Rho → KS → Prop} {K : KS} (xs : List V) (I : Nat → Rho → Prop) (h0 : ∀ ρ, I xs.length ρ → K .nxt ρ)
    (hs : ∀ i (hi : i < xs.length) ρ (k : KS), I i ρ → (∀ ρ', I (i + 1) ρ' → k .nxt ρ') → (∀ v ρ', K (.ret v) ρ' → k (.ret v) ρ') → body xs[i] ρ k) :
    ∀ ρ, I 0 ρ → forW body K xs ρ := by
  have key : ∀ m i ρ, xs.length - i = m → i ≤ xs.length → I i ρ → forW body K (xs.drop i) ρ := by
    intro m
    induction m with
    | zero =>
      intro i ρ e le hi
      obtain rfl : i = xs.length := Nat.le_antisymm le (Nat.le_of_sub_eq_zero e)
      rw [List.drop_length]
      exact h0 ρ hi
    | succ m ih =>
      intro i ρ e le hi
      have lt : i < xs.length := Nat.lt_of_sub_pos (e ▸ Nat.succ_pos m)
      rw [List.drop_eq_getElem_cons lt]
      exact hs i lt ρ _ hi (fun ρ' h' => ih (i + 1) ρ' (congrArg Nat.pred e) lt h') fun v ρ' h' => h'
  intro ρ h
  exact key xs.length 0 ρ rfl (Nat.zero_le _) h
theorem ZAn {test : Rho → T} {body : Rho → KS → Prop} {K : KS} (I : Nat → Rho → Prop)
    (h : ∀ m ρ (k : KS), I m ρ → (∀ m' ρ', m' < m → I m' ρ' → k .nxt ρ') → (∀ v ρ', K (.ret v) ρ' → k (.ret v) ρ') → test ρ fun b => ifB b (body ρ k) (K .nxt ρ)) : ∀ n m ρ, m < n → I m ρ → whlW test body K n ρ := by
  intro n
  induction n with
  | zero => exact fun m ρ lt => absurd lt (Nat.not_lt_zero _)
  | succ n ih => exact fun m ρ lt hi => h m ρ _ hi (fun m' ρ' lt' hi' => ih m' ρ' (by lia) hi') fun v ρ' h' => h'
theorem Jy {step : Rho → (Option PyData → Prop) → Prop} {ρ : Rho} {K : V → Prop} (g : V → Option PyData) : ∀ (xs : List V) (acc : List PyData), (∀ x ∈ xs, ∀ k : Option PyData → Prop, k (g x) → step (ρ ++ [some x]) k) →
    (acc ++ xs.filterMap g).length < lim → K (.own (.list (acc ++ xs.filterMap g))) → compW step none ρ K xs acc := by
  intro xs
  induction xs with
  | nil => intro acc _ h1 h2; rw [List.filterMap_nil, List.append_nil] at h1 h2; exact ⟨h1, h2⟩
  | cons x xs ih =>
    intro acc h h1 h2
    refine h x (.head _) _ (ih _ (fun y hy => h y (.tail _ hy)) ?_ ?_) <;> rw [List.filterMap_cons] at h1 h2 <;> revert h1 h2 <;> cases g x with
    | none => intro h1 h2; first | exact h1 | exact h2
    | some y => intro h1 h2; rw [show acc ++ y :: List.filterMap g xs = (acc ++ [y]) ++ List.filterMap g xs by rw [List.append_assoc]; rfl] at h1 h2; first | exact h1 | exact h2
theorem Jd (l : List Int) : allOf intOf (ofInts l) = some l := by
  induction l with
  | nil => rfl
  | cons a l ih => show (allOf intOf (ofInts l)).map (a :: ·) = _; rw [ih]; rfl
theorem JD (l : List Int) : (ofInts l).length = l.length := List.length_map ..
theorem getElem?_ofInts (l : List Int) (i : Nat) : (ofInts l)[i]? = l[i]?.map .int := List.getElem?_map ..
theorem VL (a b : List Int) : ofInts a ++ ofInts b = ofInts (a ++ b) := (List.map_append ..).symm
theorem XH (a : List Int) (n : Nat) (v : Int) : (ofInts a).set n (.int v) = ofInts (a.set n v) := (List.map_set ..).symm
theorem UZ (n : Int) : (rangeL n).length = n.toNat := by unfold rangeL; rw [List.length_map, List.length_range]
theorem WR (n : Nat) : rangeL n = (List.range n).map fun (i : Nat) => (i : Int) := rfl
theorem XQ {xs : List PyData} {i : Int} (h : 0 ≤ i) (h2 : i < 1000) : idxD xs i = xs[i.toNat]? := by
  unfold idxD; rw [if_pos ⟨h, JR h2⟩]
theorem QO {xs : List PyData} {i : Int} (h : 0 ≤ i) (h2 : i < 1000) : idxV (.d (.list xs)) i = (xs[i.toNat]?).map .d := by
  show ((some xs).bind (idxD · i)).map V.d = _
  rw [Option.bind_some, XQ h h2]
theorem WP {xs : List PyData} {i : Int} (h : 0 ≤ i) (h2 : i < 1000) : idxV (.d (.tuple xs)) i = (xs[i.toNat]?).map .d := by
  show ((some xs).bind (idxD · i)).map V.d = _
  rw [Option.bind_some, XQ h h2]
theorem Xw {xs : List PyData} {i : Int} (h : 0 ≤ i) (h2 : i < 1000) : idxV (.own (.list xs)) i = (xs[i.toNat]?).map .d := by
  show ((some xs).bind (idxD · i)).map V.d = _
  rw [Option.bind_some, XQ h h2]
theorem GE {xs : List PyData} {i : Int} (h : 0 ≤ i) (h2 : i < 1000) : idxV (.brw (.list xs)) i = (xs[i.toNat]?).map low := by
  show ((some xs).bind (idxD · i)).map low = _
  rw [Option.bind_some, XQ h h2]
theorem Wp {α : Type} {p : Prop} [Decidable p] {a : α} (h : p) : guardO p a = some a := if_pos h
theorem Qz {xs : List PyData} (h : flats xs = true) : lsV (.brw (.list xs)) = some xs := Wp h
theorem Yx {α : Type} (v : α) (K : α → Prop) : got (some v) K = K v := rfl
theorem Yu (x : PyData) : rd (.d x) = some x := rfl
theorem Zu (x : PyData) : rd (.own x) = some x := rfl
theorem Zt (x : PyData) : rd (.brw x) = some x := rfl
theorem YN (x : PyData) : nmV (.d x) = .d x := rfl
theorem Zq (x : PyData) : nmV (.own x) = .brw x := rfl
theorem Zo (x : PyData) : nmV (.brw x) = low x := rfl
theorem Zp (c : Nat) : nmV (.exc c) = .exc c := rfl
theorem Za (a : Int) : low (.int a) = .d (.int a) := rfl
theorem ZM (a : List PyData) : low (.list a) = .brw (.list a) := rfl
theorem YA (x : PyData) : argV (.d x) = some (.d x) := rfl
theorem ZT (x : PyData) : argV (.own x) = some (.d x) := rfl
theorem ZR (x : PyData) : argV (.brw x) = some (.brw x) := rfl
theorem ZS (c : Nat) : argV (.exc c) = some (.exc c) := rfl
theorem YM (x : PyData) : kp (.d x) = some x := rfl
theorem Zl (x : PyData) : kp (.own x) = some x := rfl
theorem ZY (x : PyData) : keepV true (.d x) = some (.d x) := rfl
theorem ZX (x : PyData) : keepV false (.d x) = some (.d x) := rfl
theorem ZH (x : PyData) : keepV true (.own x) = some (.own x) := rfl
theorem ZG (x : PyData) : keepV false (.own x) = some (.d x) := rfl
theorem YL (x : PyData) : retV (.d x) = some (.d x) := rfl
theorem Zc (x : PyData) : retV (.own x) = some (.own x) := rfl
theorem Zw (x : PyData) : retmV (.d x) = some (.d x) := rfl
theorem ZO (x : PyData) : retmV (.own x) = some (.own x) := rfl
theorem Yw (c : Bool) (a b : Prop) : ifB (.d (.bool c)) a b = cond c a b := rfl
theorem YB (b : Bool) : boolV (.d (.bool b)) = some b := rfl
theorem Ys (b : Int) : intV (.d (.int b)) = some b := rfl
theorem ZP : argAll [] = some [] := rfl
theorem ZQ (v : V) (r : List V) : argAll (v :: r) = (argV v).bind fun x => (argAll r).map (x :: ·) := rfl
theorem ZI : keepAll [] = some [] := rfl
theorem ZJ (v : V) (r : List V) : keepAll (v :: r) = (kp v).bind fun x => (keepAll r).map (x :: ·) := rfl
theorem Zd (xs : List PyData) : seqOf (.list xs) = some xs := rfl
theorem Ze (xs : List PyData) : seqOf (.tuple xs) = some xs := rfl
theorem Zm (xs : List PyData) : listOf (.list xs) = some xs := rfl
theorem Yt (xs : List PyData) : lsV (.d (.list xs)) = some xs := rfl
theorem Zn (xs : List PyData) : lsV (.own (.list xs)) = some xs := rfl
theorem Zk (xs : List PyData) : keysV (.d (.list xs)) = some xs := rfl
theorem ZK (xs : List PyData) : keysV (.own (.list xs)) = some xs := rfl
theorem ZZ (n : Int) : keysV (.rg n) = some (ofInts (rangeL n)) := rfl
theorem YE (hm : Bool) (xs : List PyData) : itemsV hm (.d (.list xs)) = some (xs.map .d) := rfl
theorem YF (hm : Bool) (xs : List PyData) : itemsV hm (.d (.tuple xs)) = some (xs.map .d) := rfl
theorem Zj (hm : Bool) (xs : List PyData) : itemsV hm (.own (.list xs)) = some (xs.map .d) := rfl
theorem Zi (hm : Bool) (xs : List PyData) : itemsV hm (.brw (.list xs)) = some (xs.map low) := rfl
theorem YG (n : Int) : itemsV false (.rg n) = some ((rangeL n).map fun i => .d (.int i)) := rfl
theorem YD (hm : Bool) (x : PyData) : itemsL hm (.d x) = itemsV hm (.d x) := rfl
theorem ZW (hm : Bool) (x : PyData) : itemsL hm (.own x) = itemsV hm (.own x) := rfl
theorem Zh (hm : Bool) (n : Int) : itemsL hm (.rg n) = itemsV hm (.rg n) := rfl
theorem YC (x : PyData) : frzV (.d x) = .d x := rfl
theorem ZU (x : PyData) : frzV (.own x) = .d x := rfl
theorem ZF (x : PyData) : isiV .int (.d x) = some (Ty.has .int x) := rfl
theorem ZD (x : PyData) : isiV .bool (.d x) = some (Ty.has .bool x) := rfl
theorem ZE (x : PyData) : isiV .list (.d x) = some (Ty.has .list x) := rfl
theorem ZC (x : PyData) : isiV .tuple (.d x) = some (Ty.has .tuple x) := rfl
theorem ZA (x : PyData) : isiV .list (.brw x) = some (Ty.has .list x) := rfl
theorem ZB (x : PyData) : isiV .list (.own x) = some (Ty.has .list x) := rfl
theorem ZV (t : Ty) (c : Nat) : isiV t (.exc c) = excIs t c := rfl
theorem JN {o : Op} {a b : Int} {K : V → Prop} : opW o (.d (.int a)) (.d (.int b)) K = numW o a b K := rfl
theorem YH {o : Op} {xs : List PyData} {w : V} {K : V → Prop} : opW o (.d (.list xs)) w K = objW o (.d (.list xs)) w K := rfl
theorem YI {o : Op} {xs : List PyData} {w : V} {K : V → Prop} : opW o (.d (.tuple xs)) w K = objW o (.d (.tuple xs)) w K := rfl
theorem Zf {o : Op} {x : PyData} {w : V} {K : V → Prop} : opW o (.own x) w K = objW o (.own x) w K := rfl
theorem Zr {o : Op} {x : PyData} {w : V} {K : V → Prop} : opW o (.brw x) w K = objW o (.brw x) w K := rfl
theorem YJ {o : Op} {a : Int} {x : PyData} {K : V → Prop} : opW o (.d (.int a)) (.brw x) K = objW o (.d (.int a)) (.brw x) K := rfl
theorem YK {o : Op} {a : Int} {xs : List PyData} {K : V → Prop} : opW o (.d (.int a)) (.d (.tuple xs)) K = objW o (.d (.int a)) (.d (.tuple xs)) K := rfl
theorem JC {tab : List Fn} {n f : Nat} {hm : Bool} {vs : List V} {K : V → Prop} {X : Nat → Prop} {fn : Fn} (h : tab[f]? = some fn) (l1 : vs.length = fn.np) (l2 : fn.np ≤ fn.ns)
    (w : wpSs (wpCall tab n) hm fn.body (vs.map some ++ List.replicate (fn.ns - fn.np) none) (outK K) (fun c _ => X c)) : wpCall tab (n + 1) hm f vs K X := by
  show got (tab[f]?) _
  rw [h]; exact ⟨⟨l1, l2⟩, w⟩
theorem Ji {p : Prop} [d : Decidable p] {a b : Prop} (h1 : p → a) (h2 : ¬ p → b) : cond (decide p) a b := by
  by_cases h : p
  · rw [decide_eq_true h]; exact h1 h
  · rw [decide_eq_false h]; exact h2 h
theorem XZ {p : Prop} [d : Decidable p] {a b : Prop} (h : p) (h1 : a) : cond (decide p) a b := by rw [decide_eq_true h]; exact h1
theorem ifB_no {p : Prop} [d : Decidable p] {a b : Prop} (h : ¬ p) (h1 : b) : cond (decide p) a b := by rw [decide_eq_false h]; exact h1
theorem YZ {α β : Type} (f : α → β) : List.map f [] = [] := rfl
theorem Ya {α β : Type} (f : α → β) (a : α) (l : List α) : List.map f (a :: l) = f a :: List.map f l := rfl
theorem YQ {α : Type} (l : List α) : [] ++ l = l := rfl
theorem YR {α : Type} (a : α) (k l : List α) : (a :: k) ++ l = a :: (k ++ l) := rfl
theorem YV {α : Type} (a : α) (l : List α) : (a :: l)[0]? = some a := rfl
theorem YW {α : Type} (a : α) (l : List α) (n : Nat) : (a :: l)[n + 1]? = l[n]? := rfl
theorem Ym {α : Type} (a b : α) (l : List α) : (a :: l).set 0 b = b :: l := rfl
theorem Yn {α : Type} (a b : α) (l : List α) (n : Nat) : (a :: l).set (n + 1) b = a :: l.set n b := rfl
theorem Yb {α : Type} (f : α → α) (a : α) (l : List α) : (a :: l).modify 0 f = f a :: l := rfl
theorem Yc {α : Type} (f : α → α) (a : α) (l : List α) (n : Nat) : (a :: l).modify (n + 1) f = a :: l.modify n f := rfl
theorem Yi {α : Type} (a : α) : List.replicate 0 a = [] := rfl
theorem Yj {α : Type} (a : α) (n : Nat) : List.replicate (n + 1) a = a :: List.replicate n a := rfl
theorem YX {α : Type} : ([] : List α).length = 0 := rfl
theorem YY {α : Type} (a : α) (l : List α) : (a :: l).length = l.length + 1 := rfl
theorem Yd {α β : Type} (f : α → β) (a : α) : Option.map f (some a) = some (f a) := rfl
theorem Zy {α β : Type} (f : α → Option β) (a : α) : Option.bind (some a) f = f a := rfl
theorem Zz {α : Type} (f : α → Prop) (b : Prop) (a : α) : Option.elim (some a) b f = f a := rfl
theorem JJ (a b : Prop) : cond true a b = a := rfl
theorem JL (a b : Prop) : cond false a b = b := rfl
theorem JM : (!true) = false := rfl
theorem JK : (!false) = true := rfl
theorem YU (b : Bool) : (false && b) = false := rfl
theorem Yo (b : Bool) : (true && b) = b := rfl
theorem Ye (K : V → Prop) (ρ : Rho) : outK K .nxt ρ = K (.d .none) := rfl
theorem Yf (K : V → Prop) (v : V) (ρ : Rho) : outK K (.ret v) ρ = K v := rfl
theorem YS {o : Op} {t : T} {v : V} {K : V → Prop} : cmpW [o] [t] v K = t fun w => opW o v w K := rfl
theorem YT {o o2 : Op} {os : List Op} {t t2 : T} {ts : List T} {v : V} {K : V → Prop} : cmpW (o :: o2 :: os) (t :: t2 :: ts) v K = t fun w => opW o v w fun r => ifB r (cmpW (o2 :: os) (t2 :: ts) w K) (K (.d (.bool false))) := rfl
theorem YO {t : T} {K : V → Prop} : andW [t] K = t fun v => ifB v (K (.d (.bool true))) (K (.d (.bool false))) := rfl
theorem YP {t t2 : T} {ts : List T} {K : V → Prop} : andW (t :: t2 :: ts) K = t fun v => ifB v (andW (t2 :: ts) K) (K (.d (.bool false))) := rfl
theorem Yy {t : T} {K : V → Prop} : orW [t] K = t fun v => ifB v (K (.d (.bool true))) (K (.d (.bool false))) := rfl
theorem Yz {t t2 : T} {ts : List T} {K : V → Prop} : orW (t :: t2 :: ts) K = t fun v => ifB v (K (.d (.bool true))) (orW (t2 :: ts) K) := rfl
theorem Yk {K : List V → Prop} : seqW [] K = K [] := rfl
theorem Yl {t : T} {ts : List T} {K : List V → Prop} : seqW (t :: ts) K = t fun v => seqW ts fun vs => K (v :: vs) := rfl
theorem Yp {a b : Prop} : tstW [] a b = a := rfl
theorem Yq {t : T} {ts : List T} {a b : Prop} : tstW (t :: ts) a b = t fun v => ifB v (tstW ts a b) b := rfl
theorem JP {hm : Bool} {P : Prop} : qW true hm P = P := rfl
theorem JO {P : Prop} : qW false false P = P := rfl
theorem Yh {xs : List PyData} {k : List PyData → Prop} : ownL (.own (.list xs)) k = k xs := rfl
theorem Yg {kvs : List (PyData × PyData)} {k : List (PyData × PyData) → Prop} : ownD (.own (.dict kvs)) k = k kvs := rfl
theorem JA (a b : PyData) : partsV (.d (.tuple [a, b])) 2 = some [.d a, .d b] := rfl
theorem Zg (xs : List PyData) : Ty.has .list (.list xs) = true := rfl
theorem Zv (x : PyData) : retO (.d x) = some (.d x) := rfl
theorem ZN (x : PyData) : retO (.own x) = some (.own x) := rfl
theorem r_pv3 (a b c : PyData) : partsV (.d (.tuple [a, b, c])) 3 = some [.d a, .d b, .d c] := rfl
theorem JB (a b c d : PyData) : partsV (.d (.tuple [a, b, c, d])) 4 = some [.d a, .d b, .d c, .d d] := rfl
theorem Zb {o : Op} {b : Bool} {w : V} {K : V → Prop} : opW o (.d (.bool b)) w K = objW o (.d (.bool b)) w K := rfl
theorem Zs {o : Op} {a : Int} {xs : List PyData} {K : V → Prop} : opW o (.d (.int a)) (.d (.list xs)) K = objW o (.d (.int a)) (.d (.list xs)) K := rfl
end TC

namespace TC
open PySem
noncomputable def b_is_among : Ss := 
  (.cons (.ret (.and (.cons (.f1 (.isi .int) (.nm 0)) (.cons (.f1 .not (.f1 (.isi .bool) (.nm 0))) (.cons (.cmp (.nm 1) [.le, .le] (.cons (.nm 0) (.cons (.nm 2) .nil))) .nil))))) .nil)
noncomputable def f_is_among : Fn := ⟨3, 3, b_is_among⟩
noncomputable def b_need_counts_1 : Ss := 
  (.cons (.ite (.f1 .not (.call 0 (.cons (.nm 1) (.cons (.k (.int (0))) (.cons (.k (.int (20))) .nil))))) 
    (.cons (.rais 1) .nil) .nil) .nil)
noncomputable def b_need_counts : Ss := 
  (.cons (.ite (.or (.cons (.f1 .not (.f1 (.isi .list) (.nm 0))) (.cons (.f1 .not (.cmp (.k (.int (1))) [.le, .le] (.cons (.f1 .len (.nm 0)) (.cons (.k (.int (10))) .nil)))) .nil))) 
    (.cons (.rais 1) .nil) .nil) 
  (.cons (.loopn (.one 1) 0 b_need_counts_1) .nil))
noncomputable def f_need_counts : Fn := ⟨1, 2, b_need_counts⟩
noncomputable def b_want_of : Ss := 
  (.cons (.asg false 2 (.f1 .sortedR (.nm 0))) 
  (.cons (.asg false 3 (.comp none (.sfrom (.nm 2) (.nm 1)) .nil (.f2 .min (.nm 4) (.nm 1)))) 
  (.cons (.ret (.tup (.cons (.f1 .sum (.sto (.nm 2) (.nm 1))) (.cons (.op .add (.op .mul (.nm 1) (.op .sub (.nm 1) (.k (.int (1))))) (.f1 .sum (.nm 3))) .nil)))) .nil)))
noncomputable def f_want_of : Fn := ⟨2, 4, b_want_of⟩
noncomputable def b_is_tie : Ss := 
  (.cons (.ite (.or (.cons (.f1 .not (.f1 (.isi .tuple) (.nm 1))) (.cons (.cmp (.f1 .len (.nm 1)) [.ne] (.cons (.k (.int (2))) .nil)) .nil))) 
    (.cons (.ret (.k (.bool false))) .nil) .nil) 
  (.cons (.ite (.or (.cons (.f1 .not (.call 0 (.cons (.idx (.nm 1) (.k (.int (0)))) (.cons (.k (.int (0))) (.cons (.op .sub (.nm 0) (.k (.int (1)))) .nil))))) (.cons (.f1 .not (.call 0 (.cons (.idx (.nm 1) (.k (.int (1)))) (.cons (.k (.int (0))) (.cons (.op .sub (.nm 0) (.k (.int (1)))) .nil))))) .nil))) 
    (.cons (.ret (.k (.bool false))) .nil) .nil) 
  (.cons (.ret (.cmp (.idx (.nm 1) (.k (.int (0)))) [.lt] (.cons (.idx (.nm 1) (.k (.int (1)))) .nil))) .nil)))
noncomputable def f_is_tie : Fn := ⟨2, 2, b_is_tie⟩
noncomputable def b_need_web_1 : Ss := 
  (.cons (.ite (.or (.cons (.f1 .not (.call 3 (.cons (.nm 0) (.cons (.nm 3) .nil)))) (.cons (.cmp (.nm 3) [.isin] (.cons (.nm 2) .nil)) .nil))) 
    (.cons (.rais 3) .nil) .nil) 
  (.cons (.key 2 (.nm 3)) .nil))
noncomputable def b_need_web : Ss := 
  (.cons (.ite (.or (.cons (.f1 .not (.call 0 (.cons (.nm 0) (.cons (.k (.int (1))) (.cons (.k (.int (10))) .nil))))) (.cons (.f1 .not (.f1 (.isi .list) (.nm 1))) .nil))) 
    (.cons (.rais 3) .nil) .nil) 
  (.cons (.asg true 2 .dic0) 
  (.cons (.loopn (.one 3) 1 b_need_web_1) .nil)))
noncomputable def f_need_web : Fn := ⟨2, 4, b_need_web⟩
noncomputable def b_tie_of : Ss := 
  (.cons (.ret (.tup (.cons (.f2 .min (.nm 0) (.nm 1)) (.cons (.f2 .max (.nm 0) (.nm 1)) .nil)))) .nil)
noncomputable def f_tie_of : Fn := ⟨2, 2, b_tie_of⟩
noncomputable def b_counts_by_1 : Ss := 
  (.cons (.set 2 (.nm 3) (.op .add (.idx (.nm 2) (.nm 3)) (.k (.int (1))))) 
  (.cons (.set 2 (.nm 4) (.op .add (.idx (.nm 2) (.nm 4)) (.k (.int (1))))) .nil))
noncomputable def b_counts_by_2 : Ss := 
  (.cons (.retm 2) .nil)
noncomputable def b_counts_by : Ss := 
  (.cons (.asg true 2 (.op .mul (.lst (.cons (.k (.int (0))) .nil)) (.nm 0))) 
  (.cons (.loopn (.many [3, 4]) 1 b_counts_by_1) b_counts_by_2))
noncomputable def f_counts_by : Fn := ⟨2, 5, b_counts_by⟩
noncomputable def b_done_by : Ss := 
  (.cons (.unp [2, 3, 4, 5] (.nm 1)) 
  (.cons (.asg false 6 (.comp none (.nm 0) (.cons (.and (.cons (.cmp (.nm 7) [.ne] (.cons (.call 5 (.cons (.nm 2) (.cons (.nm 3) .nil))) .nil)) (.cons (.cmp (.nm 7) [.ne] (.cons (.call 5 (.cons (.nm 4) (.cons (.nm 5) .nil))) .nil)) .nil))) .nil) (.nm 7))) 
  (.cons (.ret (.f1 .sorted (.op .add (.nm 6) (.lst (.cons (.call 5 (.cons (.nm 2) (.cons (.nm 4) .nil))) (.cons (.call 5 (.cons (.nm 3) (.cons (.nm 5) .nil))) .nil)))))) .nil)))
noncomputable def f_done_by : Fn := ⟨2, 7, b_done_by⟩
noncomputable def b_has : Ss := 
  (.cons (.ret (.cmp (.call 5 (.cons (.nm 1) (.cons (.nm 2) .nil))) [.isin] (.cons (.nm 0) .nil))) .nil)
noncomputable def f_has : Fn := ⟨3, 3, b_has⟩
noncomputable def b_parting_1 : Ss := 
  (.cons (.asg false 4 (.comp none (.f1 .range (.nm 0)) (.cons (.cmp (.nm 7) [.ne] (.cons (.nm 3) .nil)) .nil) (.nm 7))) 
  (.cons (.asg false 5 (.comp none (.nm 4) (.cons (.and (.cons (.call 8 (.cons (.nm 1) (.cons (.nm 3) (.cons (.nm 7) .nil)))) (.cons (.f1 .not (.call 8 (.cons (.nm 2) (.cons (.nm 3) (.cons (.nm 7) .nil))))) .nil))) .nil) (.nm 7))) 
  (.cons (.asg false 6 (.comp none (.nm 4) (.cons (.and (.cons (.call 8 (.cons (.nm 2) (.cons (.nm 3) (.cons (.nm 7) .nil)))) (.cons (.f1 .not (.call 8 (.cons (.nm 1) (.cons (.nm 3) (.cons (.nm 7) .nil))))) .nil))) .nil) (.nm 7))) 
  (.cons (.ite (.and (.cons (.cmp (.nm 5) [.ne] (.cons (.lst .nil) .nil)) (.cons (.cmp (.nm 6) [.ne] (.cons (.lst .nil) .nil)) .nil))) 
    (.cons (.ret (.tup (.cons (.nm 3) (.cons (.idx (.nm 5) (.k (.int (0)))) (.cons (.idx (.nm 6) (.k (.int (0)))) .nil))))) .nil) .nil) .nil))))
noncomputable def b_parting_2 : Ss := 
  (.cons (.ret (.k .none)) .nil)
noncomputable def b_parting : Ss := 
  (.cons (.loop (.one 3) (.f1 .range (.nm 0)) b_parting_1) b_parting_2)
noncomputable def f_parting : Fn := ⟨3, 7, b_parting⟩
noncomputable def b_fitting_1 : Ss := 
  (.cons (.ite (.cmp (.nm 7) [.notin] (.cons (.nm 3) .nil)) 
    (.cons (.asg false 8 (.and (.cons (.call 8 (.cons (.nm 2) (.cons (.nm 5) (.cons (.nm 7) .nil)))) (.cons (.f1 .not (.call 8 (.cons (.nm 1) (.cons (.nm 5) (.cons (.nm 7) .nil))))) .nil)))) 
    (.cons (.asg false 9 (.and (.cons (.call 8 (.cons (.nm 1) (.cons (.nm 6) (.cons (.nm 7) .nil)))) (.cons (.f1 .not (.call 8 (.cons (.nm 2) (.cons (.nm 6) (.cons (.nm 7) .nil))))) .nil)))) 
    (.cons (.ite (.and (.cons (.call 8 (.cons (.nm 1) (.cons (.nm 6) (.cons (.nm 7) .nil)))) (.cons (.f1 .not (.call 8 (.cons (.nm 1) (.cons (.nm 5) (.cons (.nm 7) .nil))))) (.cons (.or (.cons (.nm 8) (.cons (.nm 9) .nil))) .nil)))) 
      (.cons (.ret (.tup (.cons (.nm 7) (.cons (.k (.bool true)) .nil)))) .nil) .nil) 
    (.cons (.ite (.and (.cons (.call 8 (.cons (.nm 2) (.cons (.nm 5) (.cons (.nm 7) .nil)))) (.cons (.f1 .not (.call 8 (.cons (.nm 2) (.cons (.nm 6) (.cons (.nm 7) .nil))))) (.cons (.or (.cons (.nm 8) (.cons (.nm 9) .nil))) .nil)))) 
      (.cons (.ret (.tup (.cons (.nm 7) (.cons (.k (.bool false)) .nil)))) .nil) .nil) .nil)))) .nil) .nil)
noncomputable def b_fitting_2 : Ss := 
  (.cons (.ret (.k .none)) .nil)
noncomputable def b_fitting : Ss := 
  (.cons (.unp [4, 5, 6] (.nm 3)) 
  (.cons (.loop (.one 7) (.f1 .range (.nm 0)) b_fitting_1) b_fitting_2))
noncomputable def f_fitting : Fn := ⟨4, 10, b_fitting⟩
noncomputable def b_way_1 : Ss := 
  (.cons (.unp [8, 9, 10] (.nm 7)) 
  (.cons (.unp [11, 12] (.call 10 (.cons (.nm 0) (.cons (.nm 3) (.cons (.nm 4) (.cons (.nm 7) .nil)))))) 
  (.cons (.ite (.nm 12) 
    (.cons (.app 5 (.tup (.cons (.nm 8) (.cons (.nm 9) (.cons (.nm 10) (.cons (.nm 11) .nil)))))) 
    (.cons (.asg false 3 (.call 7 (.cons (.nm 3) (.cons (.tup (.cons (.nm 8) (.cons (.nm 9) (.cons (.nm 10) (.cons (.nm 11) .nil))))) .nil)))) .nil)) 
    (.cons (.app 6 (.tup (.cons (.nm 8) (.cons (.nm 9) (.cons (.nm 10) (.cons (.nm 11) .nil)))))) 
    (.cons (.asg false 4 (.call 7 (.cons (.nm 4) (.cons (.tup (.cons (.nm 8) (.cons (.nm 10) (.cons (.nm 9) (.cons (.nm 11) .nil))))) .nil)))) .nil))) 
  (.cons (.asg false 7 (.call 9 (.cons (.nm 0) (.cons (.nm 3) (.cons (.nm 4) .nil))))) .nil))))
noncomputable def b_way_2 : Ss := 
  (.cons (.ret (.op .add (.nm 5) (.f1 .rev (.nm 6)))) .nil)
noncomputable def b_way : Ss := 
  (.cons (.drop (.call 4 (.cons (.nm 0) (.cons (.nm 1) .nil)))) 
  (.cons (.drop (.call 4 (.cons (.nm 0) (.cons (.nm 2) .nil)))) 
  (.cons (.ite (.cmp (.call 6 (.cons (.nm 0) (.cons (.nm 1) .nil))) [.ne] (.cons (.call 6 (.cons (.nm 0) (.cons (.nm 2) .nil))) .nil)) 
    (.cons (.rais 5) .nil) .nil) 
  (.cons (.asg false 3 (.f1 .sorted (.nm 1))) 
  (.cons (.asg false 4 (.f1 .sorted (.nm 2))) 
  (.cons (.asg true 5 (.lst .nil)) 
  (.cons (.asg true 6 (.lst .nil)) 
  (.cons (.asg false 7 (.call 9 (.cons (.nm 0) (.cons (.nm 3) (.cons (.nm 4) .nil))))) 
  (.cons (.whl (.f1 .notNone (.nm 7)) b_way_1) b_way_2)))))))))
noncomputable def f_way : Fn := ⟨3, 13, b_way⟩
noncomputable def b_laid_1 : Ss := 
  (.cons (.asg false 6 (.idx (.idx (.nm 4) (.nm 5)) (.k (.int (1))))) 
  (.cons (.app 2 (.call 5 (.cons (.nm 3) (.cons (.nm 6) .nil)))) 
  (.cons (.set 1 (.nm 6) (.op .sub (.idx (.nm 1) (.nm 6)) (.k (.int (1))))) .nil)))
noncomputable def b_laid_2 : Ss := 
  (.cons (.set 1 (.nm 3) (.k (.int (0)))) .nil)
noncomputable def b_laid_3 : Ss := 
  (.cons (.asg false 3 (.index (.nm 1) (.f1 .max (.nm 1)))) 
  (.cons (.asg false 4 (.f1 .sorted (.comp none (.f1 .range (.f1 .len (.nm 1))) (.cons (.cmp (.nm 7) [.ne] (.cons (.nm 3) .nil)) .nil) (.tup (.cons (.op .sub (.k (.int (0))) (.idx (.nm 1) (.nm 7))) (.cons (.nm 7) .nil)))))) 
  (.cons (.loop (.one 5) (.f1 .range (.idx (.nm 1) (.nm 3))) b_laid_1) b_laid_2)))
noncomputable def b_laid_4 : Ss := 
  (.cons (.ret (.f1 .sorted (.nm 2))) .nil)
noncomputable def b_laid : Ss := 
  (.cons (.asg true 1 (.f1 .list (.nm 0))) 
  (.cons (.asg true 2 (.lst .nil)) 
  (.cons (.whl (.cmp (.f1 .max (.nm 1)) [.gt] (.cons (.k (.int (0))) .nil)) b_laid_3) b_laid_4)))
noncomputable def f_laid : Fn := ⟨1, 7, b_laid⟩
noncomputable def b_told_1 : Ss := 
  (.cons (.unp [2, 3] (.call 2 (.cons (.nm 0) (.cons (.nm 1) .nil)))) 
  (.cons (.ite (.cmp (.nm 2) [.gt] (.cons (.nm 3) .nil)) 
    (.cons (.ret (.tup (.cons (.k (.str "many")) (.cons (.nm 1) .nil)))) .nil) .nil) .nil))
noncomputable def b_told_2 : Ss := 
  (.cons (.ret (.tup (.cons (.k (.str "web")) (.cons (.call 12 (.cons (.nm 0) .nil)) .nil)))) .nil)
noncomputable def b_told : Ss := 
  (.cons (.drop (.call 1 (.cons (.nm 0) .nil))) 
  (.cons (.ite (.cmp (.op .mod (.f1 .sum (.nm 0)) (.k (.int (2)))) [.eq] (.cons (.k (.int (1))) .nil)) 
    (.cons (.ret (.tup (.cons (.k (.str "odd")) .nil))) .nil) .nil) 
  (.cons (.loop (.one 1) (.f1 .range (.op .add (.f1 .len (.nm 0)) (.k (.int (1))))) b_told_1) b_told_2)))
noncomputable def f_told : Fn := ⟨1, 4, b_told⟩
noncomputable def b__law_cell : Ss := 
  (.cons (.ite (.cmp (.nm 1) [.lt] (.cons (.f1 .len (.nm 0)) .nil)) 
    (.cons (.ret (.idx (.nm 0) (.nm 1))) .nil) .nil) 
  (.cons (.ret (.k (.int (0)))) .nil))
noncomputable def f__law_cell : Fn := ⟨2, 2, b__law_cell⟩
noncomputable def b__law_mixed : Ss := 
  (.cons (.asg false 2 (.op .add (.op .add (.nm 0) (.op .mul (.k (.int (7919))) (.nm 1))) (.k (.int (13))))) 
  (.cons (.ret (.op .fdiv (.op .mod (.op .mul (.op .mod (.op .mul (.nm 2) (.nm 2)) (.k (.int (1000000007)))) (.k (.int (48271)))) (.k (.int (998244353)))) (.k (.int (11))))) .nil))
noncomputable def f__law_mixed : Fn := ⟨2, 3, b__law_mixed⟩
noncomputable def b__law_whole : Ss := 
  (.cons (.ret (.and (.cons (.f1 (.isi .int) (.nm 0)) (.cons (.f1 .not (.f1 (.isi .bool) (.nm 0))) .nil)))) .nil)
noncomputable def f__law_whole : Fn := ⟨1, 1, b__law_whole⟩
noncomputable def b__law_web_1 : Ss := 
  (.cons (.asg false 8 (.call 15 (.cons (.call 14 (.cons (.nm 0) (.cons (.op .add (.op .add (.nm 1) (.k (.int (1)))) (.op .mod (.op .add (.nm 7) (.op .mul (.k (.int (3))) (.nm 6))) (.k (.int (6))))) .nil))) (.cons (.op .add (.op .add (.nm 7) (.op .mul (.k (.int (11))) (.nm 6))) (.op .fdiv (.nm 3) (.k (.int (64))))) .nil)))) 
  (.cons (.asg false 9 (.op .mod (.op .fdiv (.nm 3) (.k (.int (10)))) (.k (.int (6))))) 
  (.cons (.ite (.or (.cons (.and (.cons (.cmp (.nm 9) [.lt] (.cons (.k (.int (4))) .nil)) (.cons (.cmp (.op .mod (.nm 8) (.idx (.lst (.cons (.k (.int (2))) (.cons (.k (.int (3))) (.cons (.k (.int (5))) (.cons (.k (.int (4))) .nil))))) (.nm 9))) [.eq] (.cons (.k (.int (0))) .nil)) .nil))) (.cons (.and (.cons (.cmp (.nm 9) [.eq] (.cons (.k (.int (4))) .nil)) (.cons (.cmp (.op .mod (.nm 8) (.k (.int (4)))) [.gt] (.cons (.k (.int (0))) .nil)) .nil))) .nil))) 
    (.cons (.app 5 (.tup (.cons (.nm 7) (.cons (.nm 6) .nil)))) .nil) 
    (.cons (.ite (.and (.cons (.cmp (.nm 9) [.eq] (.cons (.k (.int (5))) .nil)) (.cons (.or (.cons (.cmp (.nm 6) [.eq] (.cons (.op .add (.nm 7) (.k (.int (1)))) .nil)) (.cons (.cmp (.op .mod (.nm 8) (.k (.int (6)))) [.eq] (.cons (.k (.int (0))) .nil)) .nil))) .nil))) 
      (.cons (.app 5 (.tup (.cons (.nm 7) (.cons (.nm 6) .nil)))) .nil) .nil) .nil)) .nil)))
noncomputable def b__law_web_2 : Ss := 
  (.cons (.loop (.one 7) (.f1 .range (.nm 6)) b__law_web_1) .nil)
noncomputable def b__law_web_3 : Ss := 
  (.cons (.asg false 10 (.op .mod (.op .fdiv (.nm 3) (.k (.int (60)))) (.op .add (.k (.int (1))) (.f1 .len (.nm 5))))) 
  (.cons (.ret (.tup (.cons (.nm 4) (.cons (.op .add (.sfrom (.nm 5) (.nm 10)) (.sto (.nm 5) (.nm 10))) .nil)))) .nil))
noncomputable def b__law_web : Ss := 
  (.cons (.asg false 3 (.call 14 (.cons (.nm 0) (.cons (.nm 1) .nil)))) 
  (.cons (.asg false 4 (.op .add (.k (.int (1))) (.op .mod (.nm 3) (.nm 2)))) 
  (.cons (.asg true 5 (.lst .nil)) 
  (.cons (.loop (.one 6) (.f1 .range (.nm 4)) b__law_web_2) b__law_web_3))))
noncomputable def f__law_web : Fn := ⟨3, 11, b__law_web⟩
noncomputable def b__law_tied : Ss := 
  (.cons (.ite (.cmp (.nm 0) [.lt] (.cons (.nm 1) .nil)) 
    (.cons (.ret (.tup (.cons (.nm 0) (.cons (.nm 1) .nil)))) .nil) .nil) 
  (.cons (.ret (.tup (.cons (.nm 1) (.cons (.nm 0) .nil)))) .nil))
noncomputable def f__law_tied : Fn := ⟨2, 2, b__law_tied⟩
noncomputable def b__law_counts : Ss := 
  (.cons (.ret (.comp none (.f1 .range (.nm 0)) .nil (.f1 .len (.comp none (.nm 1) (.cons (.cmp (.nm 2) [.isin] (.cons (.nm 3) .nil)) .nil) (.k (.int (1))))))) .nil)
noncomputable def f__law_counts : Fn := ⟨2, 2, b__law_counts⟩
noncomputable def b__law_fits : Ss := 
  (.cons (.unp [2, 3, 4, 5] (.nm 1)) 
  (.cons (.asg false 6 (.and (.cons (.cmp (.call 18 (.cons (.nm 2) (.cons (.nm 3) .nil))) [.isin] (.cons (.nm 0) .nil)) (.cons (.cmp (.call 18 (.cons (.nm 4) (.cons (.nm 5) .nil))) [.isin] (.cons (.nm 0) .nil)) .nil)))) 
  (.cons (.ret (.and (.cons (.nm 6) (.cons (.cmp (.call 18 (.cons (.nm 2) (.cons (.nm 4) .nil))) [.notin] (.cons (.nm 0) .nil)) (.cons (.cmp (.call 18 (.cons (.nm 3) (.cons (.nm 5) .nil))) [.notin] (.cons (.nm 0) .nil)) .nil))))) .nil)))
noncomputable def f__law_fits : Fn := ⟨2, 7, b__law_fits⟩
noncomputable def b__law_left : Ss := 
  (.cons (.unp [2, 3, 4, 5] (.nm 1)) 
  (.cons (.asg false 6 (.comp none (.nm 0) (.cons (.cmp (.nm 7) [.notin] (.cons (.lst (.cons (.call 18 (.cons (.nm 2) (.cons (.nm 3) .nil))) (.cons (.call 18 (.cons (.nm 4) (.cons (.nm 5) .nil))) .nil))) .nil)) .nil) (.nm 7))) 
  (.cons (.ret (.f1 .sorted (.op .add (.nm 6) (.lst (.cons (.call 18 (.cons (.nm 2) (.cons (.nm 4) .nil))) (.cons (.call 18 (.cons (.nm 3) (.cons (.nm 5) .nil))) .nil)))))) .nil)))
noncomputable def f__law_left : Fn := ⟨2, 7, b__law_left⟩
noncomputable def b__law_is_row : Ss := 
  (.cons (.ite (.or (.cons (.f1 .not (.f1 (.isi .tuple) (.nm 0))) (.cons (.cmp (.f1 .len (.nm 0)) [.ne] (.cons (.k (.int (4))) .nil)) (.cons (.f1 .not (.f1 .all (.comp none (.nm 0) .nil (.call 16 (.cons (.nm 2) .nil))))) .nil)))) 
    (.cons (.ret (.k (.bool false))) .nil) .nil) 
  (.cons (.ret (.and (.cons (.cmp (.f1 .dist (.nm 0)) [.eq] (.cons (.k (.int (4))) .nil)) (.cons (.cmp (.f1 .min (.nm 0)) [.ge] (.cons (.k (.int (0))) .nil)) (.cons (.cmp (.f1 .max (.nm 0)) [.lt] (.cons (.nm 1) .nil)) .nil))))) .nil))
noncomputable def f__law_is_row : Fn := ⟨2, 2, b__law_is_row⟩
noncomputable def b__law_kind : Ss := 
  (.cons (.asg false 1 (.lst (.cons (.tup (.cons (.k (.str "counts")) (.cons (.f1 (.isi (.exc 1)) (.nm 0)) .nil))) (.cons (.tup (.cons (.k (.str "many")) (.cons (.f1 (.isi (.exc 2)) (.nm 0)) .nil))) .nil)))) 
  (.cons (.asg false 1 (.op .add (.nm 1) (.lst (.cons (.tup (.cons (.k (.str "web")) (.cons (.f1 (.isi (.exc 3)) (.nm 0)) .nil))) (.cons (.tup (.cons (.k (.str "exchange")) (.cons (.f1 (.isi (.exc 4)) (.nm 0)) .nil))) .nil))))) 
  (.cons (.asg false 1 (.op .add (.nm 1) (.lst (.cons (.tup (.cons (.k (.str "unlike")) (.cons (.f1 (.isi (.exc 5)) (.nm 0)) .nil))) (.cons (.tup (.cons (.k (.str "none")) (.cons (.f1 (.isi (.exc 6)) (.nm 0)) .nil))) .nil))))) 
  (.cons (.asg false 1 (.comp (some 2) (.nm 1) (.cons (.nm 3) .nil) (.nm 2))) 
  (.cons (.ret (.op .mul (.nm 1) (.f1 .int (.and (.cons (.cmp (.f1 .len (.nm 1)) [.eq] (.cons (.k (.int (1))) .nil)) (.cons (.f1 (.isi .valueError) (.nm 0)) .nil)))))) .nil)))))
noncomputable def f__law_kind : Fn := ⟨1, 2, b__law_kind⟩
noncomputable def b__law_changed_1 : Ss := 
  (.cons (.asg false 7 (.call 15 (.cons (.call 14 (.cons (.nm 0) (.cons (.op .add (.op .add (.nm 1) (.k (.int (1)))) (.op .mod (.nm 5) (.k (.int (4))))) .nil))) (.cons (.op .add (.op .mul (.k (.int (7))) (.nm 5)) (.nm 6)) .nil)))) 
  (.cons (.asg false 8 (.tup (.cons (.op .mod (.nm 7) (.nm 2)) (.cons (.op .mod (.op .fdiv (.nm 7) (.k (.int (10)))) (.nm 2)) (.cons (.op .mod (.op .fdiv (.nm 7) (.k (.int (100)))) (.nm 2)) (.cons (.op .mod (.op .fdiv (.nm 7) (.k (.int (1000)))) (.nm 2)) .nil)))))) 
  (.cons (.ite (.and (.cons (.cmp (.f1 .dist (.nm 8)) [.eq] (.cons (.k (.int (4))) .nil)) (.cons (.call 20 (.cons (.nm 4) (.cons (.nm 8) .nil))) .nil))) 
    (.cons (.asg false 4 (.call 21 (.cons (.nm 4) (.cons (.nm 8) .nil)))) .nil) .nil) .nil)))
noncomputable def b__law_changed_2 : Ss := 
  (.cons (.loop (.one 6) (.f1 .range (.k (.int (6)))) b__law_changed_1) .nil)
noncomputable def b__law_changed_3 : Ss := 
  (.cons (.asg false 9 (.op .mod (.op .fdiv (.call 14 (.cons (.nm 0) (.cons (.nm 1) .nil))) (.k (.int (13)))) (.op .add (.k (.int (1))) (.f1 .len (.nm 4))))) 
  (.cons (.ret (.op .add (.sfrom (.nm 4) (.nm 9)) (.sto (.nm 4) (.nm 9)))) .nil))
noncomputable def b__law_changed : Ss := 
  (.cons (.asg false 4 (.f1 .sorted (.nm 3))) 
  (.cons (.loop (.one 5) (.f1 .range (.op .mod (.call 14 (.cons (.nm 0) (.cons (.nm 1) .nil))) (.k (.int (13))))) b__law_changed_2) b__law_changed_3))
noncomputable def f__law_changed : Fn := ⟨4, 10, b__law_changed⟩
noncomputable def b__law_led_1 : Ss := 
  (.cons (.ite (.or (.cons (.f1 .not (.call 22 (.cons (.nm 5) (.cons (.nm 0) .nil)))) (.cons (.f1 .not (.call 20 (.cons (.nm 4) (.cons (.nm 5) .nil)))) .nil))) 
    (.cons (.ret (.k (.bool false))) .nil) .nil) 
  (.cons (.asg false 4 (.call 21 (.cons (.nm 4) (.cons (.nm 5) .nil)))) .nil))
noncomputable def b__law_led_2 : Ss := 
  (.cons (.ret (.cmp (.nm 4) [.eq] (.cons (.f1 .sorted (.nm 2)) .nil))) .nil)
noncomputable def b__law_led : Ss := 
  (.cons (.ite (.or (.cons (.f1 .not (.f1 (.isi .list) (.nm 3))) (.cons (.cmp (.f1 .len (.nm 3)) [.gt] (.cons (.f1 .len (.comp none (.nm 1) (.cons (.cmp (.nm 6) [.notin] (.cons (.nm 2) .nil)) .nil) (.nm 6))) .nil)) .nil))) 
    (.cons (.ret (.k (.bool false))) .nil) .nil) 
  (.cons (.asg false 4 (.f1 .sorted (.nm 1))) 
  (.cons (.loopn (.one 5) 3 b__law_led_1) b__law_led_2)))
noncomputable def f__law_led : Fn := ⟨4, 6, b__law_led⟩
noncomputable def b__law_told : Ss := 
  (.cons (.tryx 
    (.cons (.ret (.call 11 (.cons (.nm 0) (.cons (.nm 1) (.cons (.nm 2) .nil))))) .nil) 0 3 
    (.cons (.ret (.tup (.cons (.k (.str "refused")) (.cons (.call 23 (.cons (.nm 3) .nil)) .nil)))) .nil)) .nil)
noncomputable def f__law_told : Fn := ⟨3, 4, b__law_told⟩
noncomputable def b__law_others_v : Ss := 
  (.cons (.app 4 (.comp (some 2) (.nm 1) .nil (.call 18 (.cons (.op .mod (.op .add (.nm 7) (.k (.int (1)))) (.nm 0)) (.cons (.op .mod (.op .add (.nm 8) (.k (.int (1)))) (.nm 0)) .nil))))) 
  (.cons (.fz 4 (.ret (.comp none (.nm 4) (.cons (.cmp (.call 19 (.cons (.nm 0) (.cons (.nm 7) .nil))) [.ne] (.cons (.call 19 (.cons (.nm 0) (.cons (.nm 1) .nil))) .nil)) .nil) (.nm 7)))) .nil))
noncomputable def b__law_others_u : Ss := 
  (.cons (.ite (.and (.cons (.cmp (.nm 1) [.ne] (.cons (.lst .nil) .nil)) (.cons (.cmp (.nm 5) [.ne] (.cons (.lst .nil) .nil)) .nil))) 
    (.cons (.asg false 6 (.idx (.nm 1) (.op .mod (.op .fdiv (.nm 2) (.k (.int (16)))) (.f1 .len (.nm 1))))) 
    (.cons (.app 4 (.op .add (.comp none (.nm 1) (.cons (.cmp (.nm 7) [.ne] (.cons (.nm 6) .nil)) .nil) (.nm 7)) (.lst (.cons (.idx (.nm 5) (.op .mod (.op .fdiv (.nm 2) (.k (.int (64)))) (.f1 .len (.nm 5)))) .nil)))) .nil)) .nil) b__law_others_v)
noncomputable def b__law_others_t : Ss := 
  (.cons (.asg false 5 (.zcomp (.lst (.cons (.k (.int (0))) (.cons (.k (.int (1))) (.cons (.k (.int (0))) (.cons (.k (.int (2))) (.cons (.k (.int (1))) (.cons (.k (.int (0))) .nil))))))) (.lst (.cons (.k (.int (1))) (.cons (.k (.int (2))) (.cons (.k (.int (2))) (.cons (.k (.int (3))) (.cons (.k (.int (3))) (.cons (.k (.int (3))) .nil))))))) (.cons (.and (.cons (.cmp (.nm 8) [.lt] (.cons (.nm 0) .nil)) (.cons (.cmp (.tup (.cons (.nm 7) (.cons (.nm 8) .nil))) [.notin] (.cons (.nm 1) .nil)) .nil))) .nil) (.cons (.nm 7) (.cons (.nm 8) .nil)))) b__law_others_u)
noncomputable def b__law_others : Ss := 
  (.cons (.asg false 3 (.tup (.cons (.op .mod (.op .fdiv (.nm 2) (.k (.int (8)))) (.op .sub (.nm 0) (.k (.int (1))))) (.cons (.op .sub (.nm 0) (.k (.int (1)))) .nil)))) 
  (.cons (.asg true 4 (.lst (.cons (.op .add (.comp none (.nm 1) (.cons (.cmp (.nm 7) [.ne] (.cons (.nm 3) .nil)) .nil) (.nm 7)) (.op .mul (.lst (.cons (.nm 3) .nil)) (.f1 .int (.cmp (.nm 3) [.notin] (.cons (.nm 1) .nil))))) .nil))) b__law_others_t))
noncomputable def f__law_others : Fn := ⟨3, 7, b__law_others⟩
noncomputable def b__law_refused_1 : Ss := 
  (.cons (.ite (.cmp (.call 26 (.cons (.nm 0) (.cons (.nm 5) (.cons (.nm 6) .nil)))) [.ne] (.cons (.tup (.cons (.k (.str "refused")) (.cons (.lst (.cons (.k (.str "unlike")) .nil)) .nil))) .nil)) 
    (.cons (.ret (.k (.bool false))) .nil) .nil) .nil)
noncomputable def b__law_refused_2 : Ss := 
  (.cons (.loop (.many [5, 6]) (.tup (.cons (.tup (.cons (.nm 1) (.cons (.nm 4) .nil))) (.cons (.tup (.cons (.nm 4) (.cons (.nm 1) .nil))) .nil))) b__law_refused_1) .nil)
noncomputable def b__law_refused_3 : Ss := 
  (.cons (.asg false 7 (.idx (.lst (.cons (.k (.int (0))) (.cons (.k (.int (11))) (.cons (.k (.bool true)) (.cons (.k .none) (.cons (.k (.str "3")) (.cons (.op .add (.k (.int (11))) (.op .mod (.op .fdiv (.nm 2) (.k (.int (6)))) (.k (.int (1000000000))))) .nil))))))) (.op .mod (.nm 2) (.k (.int (6)))))) 
  (.cons (.ite (.cmp (.call 26 (.cons (.nm 7) (.cons (.nm 1) (.cons (.nm 1) .nil)))) [.ne] (.cons (.tup (.cons (.k (.str "refused")) (.cons (.lst (.cons (.k (.str "web")) .nil)) .nil))) .nil)) 
    (.cons (.ret (.k (.bool false))) .nil) .nil) 
  (.cons (.asg false 8 (.idx (.lst (.cons (.lst (.cons (.tup (.cons (.k (.int (0))) (.cons (.k (.int (0))) .nil))) .nil)) (.cons (.k .none) (.cons (.op .add (.nm 1) (.lst (.cons (.tup (.cons (.k (.int (0))) (.cons (.nm 0) .nil))) .nil))) (.cons (.lst (.cons (.tup (.cons (.k (.int (0))) (.cons (.k (.bool true)) .nil))) .nil)) (.cons (.op .add (.op .add (.nm 1) (.sto (.nm 1) (.k (.int (1))))) (.sfrom (.lst (.cons (.tup (.cons (.k (.int (0))) (.cons (.k (.int (0))) .nil))) .nil)) (.f1 .len (.nm 1)))) .nil)))))) (.op .mod (.nm 2) (.k (.int (5)))))) 
  (.cons (.ite (.cmp (.call 26 (.cons (.nm 0) (.cons (.nm 1) (.cons (.nm 8) .nil)))) [.ne] (.cons (.tup (.cons (.k (.str "refused")) (.cons (.lst (.cons (.k (.str "web")) .nil)) .nil))) .nil)) 
    (.cons (.ret (.k (.bool false))) .nil) .nil) 
  (.cons (.ret (.cmp (.call 26 (.cons (.nm 0) (.cons (.nm 8) (.cons (.lst (.cons (.tup (.cons (.k (.int (1))) (.cons (.k (.int (0))) .nil))) .nil)) .nil)))) [.eq] (.cons (.tup (.cons (.k (.str "refused")) (.cons (.lst (.cons (.k (.str "web")) .nil)) .nil))) .nil))) .nil)))))
noncomputable def b__law_refused : Ss := 
  (.cons (.asg false 3 (.lst .nil)) 
  (.cons (.ite (.cmp (.nm 0) [.gt] (.cons (.k (.int (1))) .nil)) 
    (.cons (.asg false 3 (.call 27 (.cons (.nm 0) (.cons (.nm 1) (.cons (.nm 2) .nil))))) .nil) .nil) 
  (.cons (.loopn (.one 4) 3 b__law_refused_2) b__law_refused_3)))
noncomputable def f__law_refused : Fn := ⟨3, 9, b__law_refused⟩
noncomputable def b_law_v : Ss := 
  (.cons (.ite (.or (.cons (.f1 .not (.call 25 (.cons (.nm 1) (.cons (.nm 2) (.cons (.nm 3) (.cons (.call 26 (.cons (.nm 1) (.cons (.idx (.nm 5) (.k (.int (0)))) (.cons (.idx (.nm 5) (.k (.int (1)))) .nil)))) .nil)))))) (.cons (.cmp (.nm 6) [.ne] (.cons (.op .add (.nm 8) (.lst (.cons (.tup .nil) .nil))) .nil)) .nil))) 
    (.cons (.ret (.k (.bool false))) .nil) .nil) 
  (.cons (.ret (.and (.cons (.call 28 (.cons (.nm 1) (.cons (.f1 .list (.nm 2)) (.cons (.op .fdiv (.nm 4) (.k (.int (12)))) .nil)))) (.cons (.cmp (.nm 5) [.eq] (.cons (.lst (.cons (.nm 2) (.cons (.nm 3) .nil))) .nil)) .nil)))) .nil))
noncomputable def b_law_u : Ss := 
  (.cons (.ite (.or (.cons (.cmp (.nm 5) [.ne] (.cons (.lst (.cons (.nm 2) (.cons (.nm 3) .nil))) .nil)) (.cons (.f1 .not (.call 25 (.cons (.nm 1) (.cons (.nm 2) (.cons (.nm 3) (.cons (.nm 6) .nil)))))) (.cons (.f1 .not (.call 25 (.cons (.nm 1) (.cons (.nm 3) (.cons (.nm 2) (.cons (.nm 7) .nil)))))) .nil)))) 
    (.cons (.ret (.k (.bool false))) .nil) .nil) 
  (.cons (.asg false 8 (.f1 .list (.nm 6))) 
  (.cons (.app 6 (.tup .nil)) 
  (.cons (.clr 7) b_law_v))))
noncomputable def b_law_t : Ss := 
  (.cons (.asg false 5 (.lst (.cons (.f1 .list (.nm 2)) (.cons (.f1 .list (.nm 3)) .nil)))) 
  (.cons (.asg true 6 (.call 26 (.cons (.nm 1) (.cons (.idx (.nm 5) (.k (.int (0)))) (.cons (.idx (.nm 5) (.k (.int (1)))) .nil))))) 
  (.cons (.asg true 7 (.call 26 (.cons (.nm 1) (.cons (.idx (.nm 5) (.k (.int (1)))) (.cons (.idx (.nm 5) (.k (.int (0)))) .nil))))) b_law_u)))
noncomputable def b_law : Ss := 
  (.cons (.unp [1, 2] (.call 17 (.cons (.nm 0) (.cons (.k (.int (1))) (.cons (.k (.int (10))) .nil))))) 
  (.cons (.asg false 3 (.call 24 (.cons (.nm 0) (.cons (.k (.int (8))) (.cons (.nm 1) (.cons (.nm 2) .nil)))))) 
  (.cons (.asg false 4 (.call 14 (.cons (.nm 0) (.cons (.k (.int (0))) .nil)))) 
  (.cons (.ite (.cmp (.op .mod (.nm 4) (.k (.int (4)))) [.eq] (.cons (.k (.int (1))) .nil)) 
    (.cons (.asg false 3 (.idx (.call 13 (.cons (.call 19 (.cons (.nm 1) (.cons (.nm 2) .nil))) .nil)) (.k (.int (1))))) .nil) .nil) 
  (.cons (.ite (.and (.cons (.cmp (.op .mod (.nm 4) (.k (.int (4)))) [.eq] (.cons (.k (.int (2))) .nil)) (.cons (.cmp (.op .mod (.op .fdiv (.nm 4) (.k (.int (4)))) (.k (.int (3)))) [.eq] (.cons (.k (.int (0))) .nil)) .nil))) 
    (.cons (.asg false 3 (.f1 .list (.nm 2))) .nil) .nil) b_law_t)))))
noncomputable def f_law : Fn := ⟨1, 9, b_law⟩

noncomputable def T06 : List Fn := [f_is_among, f_need_counts, f_want_of, f_is_tie, f_need_web, f_tie_of, f_counts_by, f_done_by, f_has, f_parting, f_fitting, f_way, f_laid, f_told, f__law_cell, f__law_mixed, f__law_whole, f__law_web, f__law_tied, f__law_counts, f__law_fits, f__law_left, f__law_is_row, f__law_kind, f__law_changed, f__law_led, f__law_told, f__law_others, f__law_refused, f_law]
end TC

namespace TC
open PySem
section
variable {n : Nat} {hm : Bool} {K : V → Prop} {X : Nat → Prop}
noncomputable def amongB : PyData → Int → Int → Bool
  | .int i, a, b => decide (a ≤ i) && decide (i ≤ b)
  | _, _, _ => false
theorem cond2 {c d : Bool} {K : V → Prop} (k : K (.d (.bool (c && d)))) : cond c (cond d (K (.d (.bool true))) (K (.d (.bool false)))) (K (.d (.bool false))) := by
  cases c <;> cases d <;> exact k
theorem Qc (x : PyData) (a b : Int) (k : K (.d (.bool (amongB x a b)))) : wpCall T06 (n + 1) hm 0 [.d x, .d (.int a), .d (.int b)] K X := by
  refine JC (fn := f_is_among) rfl rfl (by decide) ?_
  dsimp only [f_is_among, b_is_among, wpSs, wpS, wpE, wpL, slotW, ownS, Rho.putL, frz, bindF, setD, setAll, bindT, F1.W, F2.W, F1.quiet, seqV, numW, isNon, Yx, Yu, Zu, Zt, YN, Zq, Zo, Zp, Za, ZM, YA, ZT, ZR, ZS, YM, Zl, ZY, ZX, ZH, ZG, YL, Zc, Zw, ZO, Yw, YB, Ys, ZP, ZQ, ZI, ZJ, Zd, Ze, Zm, Yt, Zn, Zk, ZK, ZZ, YE, YF, Zj, Zi, YG, YD, ZW, Zh, Zg, JA, YC, ZU, ZF, ZD, ZE, ZC, ZA, ZB, ZV, excIs, JN, YH, YI, Zf, Zr, YJ, YK, YZ, Ya, YQ, YR, YV, YW, Ym, Yn, Yb, Yc, Yi, Yj, YX, YY, Yd, Zy, Zz, JJ, JL, JM, JK, YU, Yo, Ye, Yf, YS, YT, YO, YP, Yy, Yz, Yk, Yl, Yp, Yq, JP, JO, Yh, Yg, Nat.reduceSub, Nat.reduceAdd, Zv, ZN, JB, Zb, Zs]
  cases x with
  | int i => exact cond2 k
  | _ => exact k
noncomputable def cellAt (sc : List Int) (k : Int) : Int := sc.getD k.toNat 0
theorem QF (sc : List Int) (k : Int) (hs : sc.length < 64) (hk0 : 0 ≤ k) (hk : k < 1000) (q : K (.d (.int (cellAt sc k)))) : wpCall T06 (n + 1) hm 14 [.d (.list (ofInts sc)), .d (.int k)] K X := by
  have l : (ofInts sc).length < lim := by rw [JD]; exact Yv (by lia)
  refine JC (fn := f__law_cell) rfl rfl (by decide) ?_
  dsimp only [f__law_cell, b__law_cell, wpSs, wpS, wpE, wpL, slotW, ownS, Rho.putL, frz, bindF, setD, setAll, bindT, F1.W, F2.W, F1.quiet, seqV, numW, isNon, Yx, Yu, Zu, Zt, YN, Zq, Zo, Zp, Za, ZM, YA, ZT, ZR, ZS, YM, Zl, ZY, ZX, ZH, ZG, YL, Zc, Zw, ZO, Yw, YB, Ys, ZP, ZQ, ZI, ZJ, Zd, Ze, Zm, Yt, Zn, Zk, ZK, ZZ, YE, YF, Zj, Zi, YG, YD, ZW, Zh, Zg, JA, YC, ZU, ZF, ZD, ZE, ZC, ZA, ZB, ZV, excIs, JN, YH, YI, Zf, Zr, YJ, YK, YZ, Ya, YQ, YR, YV, YW, Ym, Yn, Yb, Yc, Yi, Yj, YX, YY, Yd, Zy, Zz, JJ, JL, JM, JK, YU, Yo, Ye, Yf, YS, YT, YO, YP, Yy, Yz, Yk, Yl, Yp, Yq, JP, JO, Yh, Yg, Nat.reduceSub, Nat.reduceAdd, Zv, ZN, JB, Zb, Zs]
  refine ⟨l, Ji (fun lt => ?_) (fun lt => ?_)⟩ <;> rw [JD] at lt
  · have lt' : k.toNat < sc.length := by lia
    have e2 : cellAt sc k = sc[k.toNat] := by unfold cellAt; rw [List.getD_eq_getElem?_getD, List.getElem?_eq_getElem lt']; rfl
    rw [QO hk0 hk, getElem?_ofInts, List.getElem?_eq_getElem lt', ← e2]
    exact q
  · have e2 : cellAt sc k = 0 := by unfold cellAt; rw [List.getD_eq_getElem?_getD, List.getElem?_eq_none (by lia)]; rfl
    rw [e2] at q
    exact q
noncomputable def mixed (c k : Int) : Int := ((((c + 7919 * k + 13) * (c + 7919 * k + 13)).fmod 1000000007 * 48271).fmod 998244353).fdiv 11
theorem Xt (c k : Int) (ok : IntMulOk (c + 7919 * k + 13) (c + 7919 * k + 13)) (q : K (.d (.int (mixed c k)))) : wpCall T06 (n + 1) hm 15 [.d (.int c), .d (.int k)] K X := by
  refine JC (fn := f__law_mixed) rfl rfl (by decide) ?_
  dsimp only [f__law_mixed, b__law_mixed, wpSs, wpS, wpE, wpL, slotW, ownS, Rho.putL, frz, bindF, setD, setAll, bindT, F1.W, F2.W, F1.quiet, seqV, numW, isNon, Yx, Yu, Zu, Zt, YN, Zq, Zo, Zp, Za, ZM, YA, ZT, ZR, ZS, YM, Zl, ZY, ZX, ZH, ZG, YL, Zc, Zw, ZO, Yw, YB, Ys, ZP, ZQ, ZI, ZJ, Zd, Ze, Zm, Yt, Zn, Zk, ZK, ZZ, YE, YF, Zj, Zi, YG, YD, ZW, Zh, Zg, JA, YC, ZU, ZF, ZD, ZE, ZC, ZA, ZB, ZV, excIs, JN, YH, YI, Zf, Zr, YJ, YK, YZ, Ya, YQ, YR, YV, YW, Ym, Yn, Yb, Yc, Yi, Yj, YX, YY, Yd, Zy, Zz, JJ, JL, JM, JK, YU, Yo, Ye, Yf, YS, YT, YO, YP, Yy, Yz, Yk, Yl, Yp, Yq, JP, JO, Yh, Yg, Nat.reduceSub, Nat.reduceAdd, Zv, ZN, JB, Zb, Zs]
  exact ⟨IntMulOk.of_left (by decide), ok, by decide, IntMulOk.of_right (by decide), by decide, ⟨by decide, by decide⟩, q⟩
noncomputable def wholeB : PyData → Bool
  | .int _ => true
  | _ => false
theorem Qi (x : PyData) (k : K (.d (.bool (wholeB x)))) : wpCall T06 (n + 1) hm 16 [.d x] K X := by
  refine JC (fn := f__law_whole) rfl rfl (by decide) ?_
  dsimp only [f__law_whole, b__law_whole, wpSs, wpS, wpE, wpL, slotW, ownS, Rho.putL, frz, bindF, setD, setAll, bindT, F1.W, F2.W, F1.quiet, seqV, numW, isNon, Yx, Yu, Zu, Zt, YN, Zq, Zo, Zp, Za, ZM, YA, ZT, ZR, ZS, YM, Zl, ZY, ZX, ZH, ZG, YL, Zc, Zw, ZO, Yw, YB, Ys, ZP, ZQ, ZI, ZJ, Zd, Ze, Zm, Yt, Zn, Zk, ZK, ZZ, YE, YF, Zj, Zi, YG, YD, ZW, Zh, Zg, JA, YC, ZU, ZF, ZD, ZE, ZC, ZA, ZB, ZV, excIs, JN, YH, YI, Zf, Zr, YJ, YK, YZ, Ya, YQ, YR, YV, YW, Ym, Yn, Yb, Yc, Yi, Yj, YX, YY, Yd, Zy, Zz, JJ, JL, JM, JK, YU, Yo, Ye, Yf, YS, YT, YO, YP, Yy, Yz, Yk, Yl, Yp, Yq, JP, JO, Yh, Yg, Nat.reduceSub, Nat.reduceAdd, Zv, ZN, JB, Zb, Zs]
  cases x <;> exact k
noncomputable def ltB : PyData → PyData → Bool
  | .int a, .int b => decide (a < b)
  | _, _ => false
noncomputable def tieB (sz : Int) : PyData → Bool
  | .tuple [a, b] => amongB a 0 (sz - 1) && amongB b 0 (sz - 1) && ltB a b
  | _ => false
noncomputable def Short : PyData → Prop
  | .tuple xs => xs.length < 1000
  | _ => True
theorem ZEp {a : PyData} {r : List PyData} {K : V → Prop} (k : K (.d a)) : got (idxV (.d (.tuple (a :: r))) 0) K := by rw [WP (by decide) (by decide)]; exact k
theorem WC {a b : PyData} {r : List PyData} {K : V → Prop} (k : K (.d b)) : got (idxV (.d (.tuple (a :: b :: r))) 1) K := by rw [WP (by decide) (by decide)]; exact k
theorem QP {x : PyData} {a b : Int} (h : amongB x a b = true) : ∃ i, x = .int i := by
  cases x <;> first | exact ⟨_, rfl⟩ | exact nomatch h
theorem ZDt (sz : Int) (x : PyData) (hx : Short x) (k : K (.d (.bool (tieB sz x)))) : wpCall T06 (n + 2) hm 3 [.d (.int sz), .d x] K X := by
  refine JC (fn := f_is_tie) rfl rfl (by decide) ?_
  dsimp only [f_is_tie, b_is_tie, wpSs, wpS, wpE, wpL, slotW, ownS, Rho.putL, frz, bindF, setD, setAll, bindT, F1.W, F2.W, F1.quiet, seqV, numW, isNon, Yx, Yu, Zu, Zt, YN, Zq, Zo, Zp, Za, ZM, YA, ZT, ZR, ZS, YM, Zl, ZY, ZX, ZH, ZG, YL, Zc, Zw, ZO, Yw, YB, Ys, ZP, ZQ, ZI, ZJ, Zd, Ze, Zm, Yt, Zn, Zk, ZK, ZZ, YE, YF, Zj, Zi, YG, YD, ZW, Zh, Zg, JA, YC, ZU, ZF, ZD, ZE, ZC, ZA, ZB, ZV, excIs, JN, YH, YI, Zf, Zr, YJ, YK, YZ, Ya, YQ, YR, YV, YW, Ym, Yn, Yb, Yc, Yi, Yj, YX, YY, Yd, Zy, Zz, JJ, JL, JM, JK, YU, Yo, Ye, Yf, YS, YT, YO, YP, Yy, Yz, Yk, Yl, Yp, Yq, JP, JO, Yh, Yg, Nat.reduceSub, Nat.reduceAdd, Zv, ZN, JB, Zb, Zs]
  cases x with
  | tuple xs =>
    show xs.length < lim ∧ _
    refine ⟨Yv hx, ?_⟩
    have no : ∀ {c : Prop}, xs.length ≠ 2 → tieB sz (.tuple xs) = false → cond (!decide ((xs.length : Int) = 2)) (K (.d (.bool false))) c := fun h e => by rw [decide_eq_false (by lia)]; rw [e] at k; exact k
    rcases xs with _ | ⟨a, _ | ⟨b, _ | ⟨c, xs⟩⟩⟩
    · exact no nofun rfl
    · exact no nofun rfl
    · have tb : tieB sz (.tuple [a, b]) = (amongB a 0 (sz - 1) && amongB b 0 (sz - 1) && ltB a b) := rfl
      rw [tb] at k
      refine ZEp (Qc a 0 (sz - 1) ?_)
      cases ha : amongB a 0 (sz - 1) with
      | false => rw [ha] at k; exact k
      | true =>
        rw [ha] at k
        refine WC (Qc b 0 (sz - 1) ?_)
        cases hb : amongB b 0 (sz - 1) with
        | false => rw [hb] at k; exact k
        | true =>
          rw [hb] at k
          obtain ⟨i, rfl⟩ := QP ha
          obtain ⟨j, rfl⟩ := QP hb
          exact ZEp (WC k)
    · exact no (by simp only [List.length_cons]; lia) rfl
  | _ => exact k
end
end TC

namespace TC
open PySem
section
variable {n : Nat} {hm : Bool} {K : V → Prop} {X : Nat → Prop}
noncomputable def mets (met : List (List Int)) : List (PyData × PyData) := met.map fun k => (.tuple (ofInts k), .bool true)
theorem Hy (met : List (List Int)) : tabT (mets met) = some met := by
  induction met with
  | nil => rfl
  | cons k met ih =>
    show ((allOf intOf (ofInts k)).bind fun a => (tabT (mets met)).map (a :: ·)) = _
    rw [Jd, ih]; rfl
theorem XY (a b : Int) (met : List (List Int)) : hasKey (.tuple [.int a, .int b]) (mets met) = some (met.contains [a, b]) := by
  show (tabT (mets met)).map _ = _
  rw [Hy]; rfl
noncomputable def keyOf (y : PyData) : List Int := (tupOf y).getD []
noncomputable def okW (sz : Int) : List PyData → List (List Int) → Bool
  | [], _ => true
  | y :: ys, met => tieB sz y && (!met.contains (keyOf y) && okW sz ys (met ++ [keyOf y]))
theorem ZDs {sz : Int} {y : PyData} (h : tieB sz y = true) : ∃ a b, y = .tuple [.int a, .int b] := by
  cases y with
  | tuple xs =>
    rcases xs with _ | ⟨a, _ | ⟨b, _ | ⟨c, xs⟩⟩⟩
    · exact nomatch h
    · exact nomatch h
    · have h := Bool.and_eq_true_iff.mp (Bool.and_eq_true_iff.mp h).1
      obtain ⟨i, rfl⟩ := QP h.1
      obtain ⟨j, rfl⟩ := QP h.2
      exact ⟨i, j, rfl⟩
    · exact nomatch h
  | _ => exact nomatch h
theorem WK {sz : Int} {y : PyData} {ys : List PyData} {met : List (List Int)} (h : tieB sz y = false) : okW sz (y :: ys) met = false := by
  show (tieB sz y && _) = false
  rw [h]; rfl
theorem HX (sz : Int) {Ko : KS} {l : Option V} {ys : List PyData} : ∀ {met : List (List Int)} {s3 : Option V}, (∀ y ∈ ys, Short y) → met.length + ys.length < 1000 → (okW sz ys met = true → ∀ ρ, Ko .nxt ρ) → (okW sz ys met = false → X 3) →
    forW (fun x ρ' k => bindF (.one 3) x ρ' fun ρ'' => wpSs (wpCall T06 (n + 2)) false b_need_web_1 ρ'' k (fun c _ => X c)) Ko (ys.map .d) [some (.d (.int sz)), l, some (.own (.dict (mets met))), s3] := by
  induction ys with
  | nil => exact fun _ _ h _ => h rfl _
  | cons y ys ih =>
    intro met s3 hs hl h1 h2
    dsimp only [forW, b_need_web_1, wpSs, wpS, wpE, wpL, slotW, ownS, Rho.putL, frz, bindF, setD, setAll, bindT, F1.W, F2.W, F1.quiet, seqV, numW, isNon, Yx, Yu, Zu, Zt, YN, Zq, Zo, Zp, Za, ZM, YA, ZT, ZR, ZS, YM, Zl, ZY, ZX, ZH, ZG, YL, Zc, Zw, ZO, Yw, YB, Ys, ZP, ZQ, ZI, ZJ, Zd, Ze, Zm, Yt, Zn, Zk, ZK, ZZ, YE, YF, Zj, Zi, YG, YD, ZW, Zh, Zg, JA, YC, ZU, ZF, ZD, ZE, ZC, ZA, ZB, ZV, excIs, JN, YH, YI, Zf, Zr, YJ, YK, YZ, Ya, YQ, YR, YV, YW, Ym, Yn, Yb, Yc, Yi, Yj, YX, YY, Yd, Zy, Zz, JJ, JL, JM, JK, YU, Yo, Ye, Yf, YS, YT, YO, YP, Yy, Yz, Yk, Yl, Yp, Yq, JP, JO, Yh, Yg, Nat.reduceSub, Nat.reduceAdd, Zv, ZN, JB, Zb, Zs]
    refine ZDt sz y (hs y (.head _)) ?_
    cases e : tieB sz y with
    | false => exact ⟨rfl, h2 (WK e)⟩
    | true =>
      obtain ⟨a, b, rfl⟩ := ZDs e
      show got (hasKey (.tuple [.int a, .int b]) (mets met)) _
      rw [XY]
      have ok : okW sz (.tuple [.int a, .int b] :: ys) met = (!met.contains [a, b] && okW sz ys (met ++ [[a, b]])) := by
        show (tieB sz (.tuple [.int a, .int b]) && _) = _; rw [e]; rfl
      rw [ok] at h1 h2
      cases c : met.contains [a, b] with
      | true => rw [c] at h2; exact ⟨rfl, h2 rfl⟩
      | false =>
        rw [c] at h1 h2
        show got (addKey (.tuple [.int a, .int b]) (mets met)) _
        unfold addKey
        rw [XY, c]
        refine ⟨Yv (by unfold mets; rw [List.length_map]; simp only [List.length_cons] at hl; lia), ?_⟩
        have e2 : mets met ++ [(.tuple [.int a, .int b], .bool true)] = mets (met ++ [[a, b]]) := by unfold mets; rw [List.map_append]; rfl
        show forW _ _ _ [some (.d (.int sz)), l, some (.own (.dict (mets met ++ [(.tuple [.int a, .int b], .bool true)]))), _]
        rw [e2]
        exact ih (fun y hy => hs y (.tail _ hy)) (by rw [List.length_append]; simp only [List.length_cons, List.length_nil] at hl ⊢; lia) h1 h2
noncomputable def webB (x y : PyData) : Bool :=
  match x, y with
  | .int sz, .list ys => decide (1 ≤ sz) && decide (sz ≤ 10) && okW sz ys []
  | _, _ => false
noncomputable def ShortL : PyData → Prop
  | .list ys => ys.length < 1000 ∧ ∀ y ∈ ys, Short y
  | _ => True
theorem Xe (x y : PyData) (hy : ShortL y) (h1 : webB x y = true → K (.d .none)) (h2 : webB x y = false → X 3) : wpCall T06 (n + 3) false 4 [.d x, .d y] K X := by
  refine JC (fn := f_need_web) rfl rfl (by decide) ?_
  dsimp only [f_need_web, b_need_web, wpSs, wpS, wpE, wpL, slotW, ownS, Rho.putL, frz, bindF, setD, setAll, bindT, F1.W, F2.W, F1.quiet, seqV, numW, isNon, Yx, Yu, Zu, Zt, YN, Zq, Zo, Zp, Za, ZM, YA, ZT, ZR, ZS, YM, Zl, ZY, ZX, ZH, ZG, YL, Zc, Zw, ZO, Yw, YB, Ys, ZP, ZQ, ZI, ZJ, Zd, Ze, Zm, Yt, Zn, Zk, ZK, ZZ, YE, YF, Zj, Zi, YG, YD, ZW, Zh, Zg, JA, YC, ZU, ZF, ZD, ZE, ZC, ZA, ZB, ZV, excIs, JN, YH, YI, Zf, Zr, YJ, YK, YZ, Ya, YQ, YR, YV, YW, Ym, Yn, Yb, Yc, Yi, Yj, YX, YY, Yd, Zy, Zz, JJ, JL, JM, JK, YU, Yo, Ye, Yf, YS, YT, YO, YP, Yy, Yz, Yk, Yl, Yp, Yq, JP, JO, Yh, Yg, Nat.reduceSub, Nat.reduceAdd, Zv, ZN, JB, Zb, Zs]
  refine Qc x 1 10 ?_
  cases e : amongB x 1 10 with
  | false =>
    refine ⟨rfl, h2 ?_⟩
    cases x with
    | int i => cases y with
      | list ys => show (amongB (.int i) 1 10 && _) = false; rw [e]; rfl
      | _ => rfl
    | _ => rfl
  | true =>
    obtain ⟨sz, rfl⟩ := QP e
    cases y with
    | list ys =>
      have e2 : webB (.int sz) (.list ys) = okW sz ys [] := by show (amongB (.int sz) 1 10 && _) = _; rw [e]; rfl
      rw [e2] at h1 h2
      exact ⟨by rw [List.length_map]; exact Yv hy.1, HX sz (met := []) hy.2 (by rw [List.length_nil, Nat.zero_add]; exact hy.1) (fun q _ => h1 q) h2⟩
    | _ => exact ⟨rfl, h2 rfl⟩
end
end TC

namespace TC


noncomputable abbrev Ties := List (Nat × Nat)
noncomputable def Adj (ts : Ties) (a b : Nat) : Prop := (a, b) ∈ ts ∨ (b, a) ∈ ts
theorem Adj.symm {ts : Ties} {a b : Nat} (h : Adj ts a b) : Adj ts b a := Or.symm h
noncomputable def Web (n : Nat) (ts : Ties) : Prop := ts.Nodup ∧ ∀ t ∈ ts, t.1 < t.2 ∧ t.2 < n
theorem Web.lt {n : Nat} {ts : Ties} (w : Web n ts) {a b : Nat} (h : Adj ts a b) : a < n ∧ b < n := by
  rcases h with h | h <;> have := w.2 _ h <;> dsimp only at this <;> lia

end TC

namespace TC

noncomputable def sm (P : List Nat) (f : Nat → Int) : Int := (P.map f).sum
theorem Ht (f : Nat → Int) : sm [] f = 0 := rfl
theorem JI (a : Nat) (P : List Nat) (f : Nat → Int) : sm (a :: P) f = f a + sm P f := by unfold sm; rw [List.map_cons, List.sum_cons]
theorem JG {P : List Nat} {f g : Nat → Int} (h : ∀ i ∈ P, f i = g i) : sm P f = sm P g := by unfold sm; rw [List.map_congr_left h]
theorem QH (P : List Nat) (f g : Nat → Int) : sm P (fun i => f i + g i) = sm P f + sm P g := by
  induction P with
  | nil => rfl
  | cons a P ih => rw [JI, JI, JI, ih]; lia
theorem Jp (P : List Nat) (f g : Nat → Int) : sm P (fun i => f i - g i) = sm P f - sm P g := by
  induction P with
  | nil => rfl
  | cons a P ih => rw [JI, JI, JI, ih]; lia
theorem XC (P : List Nat) (c : Int) (f : Nat → Int) : sm P (fun i => c * f i) = c * sm P f := by
  induction P with
  | nil => rw [Ht, Ht, Int.mul_zero]
  | cons a P ih => rw [JI, JI, ih, Int.mul_add]
theorem Qj {P : List Nat} {f g : Nat → Int} (h : ∀ i ∈ P, f i ≤ g i) : sm P f ≤ sm P g := by
  induction P with
  | nil => exact Int.le_refl _
  | cons a P ih => rw [JI, JI]; exact Int.add_le_add (h a (.head _)) (ih fun i hi => h i (.tail _ hi))
theorem Jh {P : List Nat} {f : Nat → Int} (h : ∀ i ∈ P, 0 ≤ f i) : 0 ≤ sm P f := by
  have e : sm P (fun _ => 0) = 0 := by
    induction P with
    | nil => rfl
    | cons a P ih => rw [JI, ih fun i hi => h i (.tail _ hi)]; rfl
  rw [← e]; exact Qj h
theorem QZ (P : List Nat) : sm P (fun _ => 1) = P.length := by
  induction P with
  | nil => rfl
  | cons a P ih => rw [JI, ih, List.length_cons]; lia
theorem QD {P R : List Nat} (h : P.Perm R) (f : Nat → Int) : sm P f = sm R f := by
  induction h with
  | nil => rfl
  | cons a _ ih => rw [JI, JI, ih]
  | swap a b l => rw [JI, JI, JI, JI]; lia
  | trans _ _ ih1 ih2 => rw [ih1, ih2]
theorem XB (P R : List Nat) (f : Nat → Int) : sm (P ++ R) f = sm P f + sm R f := by
  induction P with
  | nil => rw [List.nil_append, Ht, Int.zero_add]
  | cons a P ih => rw [List.cons_append, JI, JI, ih]; lia
theorem Ju {P : List Nat} (nd : P.Nodup) {f g : Nat → Int} {i : Nat} (hi : i ∈ P) (h : ∀ j ∈ P, j ≠ i → g j = f j) : sm P g = sm P f + (g i - f i) := by
  induction P with
  | nil => cases hi
  | cons a P ih =>
    rw [JI, JI]
    have nd' := List.nodup_cons.mp nd
    cases hi with
    | head => rw [JG (f := g) (g := f) fun j hj => h j (.tail _ hj) fun e => nd'.1 (e ▸ hj)]; lia
    | tail _ hi => rw [ih nd'.2 hi fun j hj => h j (.tail _ hj), h a (.head _) fun e => nd'.1 (e ▸ hi)]; lia
theorem ZFp {α : Type} {Q : α → Prop} (W : α → Int) (M : Int) (b : ∀ x, Q x → W x ≤ M) : ∀ x, Q x → ∃ y, Q y ∧ ∀ z, Q z → W z ≤ W y := by
  have key : ∀ k : Nat, ∀ x, Q x → M - W x ≤ k → ∃ y, Q y ∧ ∀ z, Q z → W z ≤ W y := by
    intro k
    induction k with
    | zero => exact fun x hx h => ⟨x, hx, fun z hz => by have := b z hz; lia⟩
    | succ k ih =>
      intro x hx h
      by_cases g : ∀ z, Q z → W z ≤ W x
      · exact ⟨x, hx, g⟩
      · obtain ⟨z, hz⟩ := Classical.not_forall.mp g
        obtain ⟨h1, h2⟩ := Classical.not_imp.mp hz
        exact ih z h1 (by lia)
  intro x hx
  exact key (M - W x).toNat x hx (by lia)

noncomputable def Tri (σ : Nat → Int) : Prop := ∀ i, σ i = 1 ∨ σ i = 0 ∨ σ i = -1
noncomputable def ps (x : Int) : Int := if x = 1 then 1 else 0
noncomputable def ng (x : Int) : Int := if x = -1 then 1 else 0
noncomputable def EG (P : List Nat) (d : Nat → Int) : Prop := ∀ σ, Tri σ → sm P (fun i => σ i * d i) ≤ sm P (fun i => ps (σ i)) * (P.length - 1 - sm P fun i => ng (σ i))
theorem ps1 : ps 1 = 1 := rfl
theorem ps0 : ps 0 = 0 := rfl
theorem psm : ps (-1) = 0 := rfl
theorem ng1 : ng 1 = 0 := rfl
theorem ng0 : ng 0 = 0 := rfl
theorem ngm : ng (-1) = 1 := rfl
noncomputable def upd (σ : Nat → Int) (i : Nat) (v : Int) : Nat → Int := fun j => if j = i then v else σ j
theorem Jv (σ : Nat → Int) (i : Nat) (v : Int) : upd σ i v i = v := if_pos rfl
theorem JZ (σ : Nat → Int) {i j : Nat} (v : Int) (h : j ≠ i) : upd σ i v j = σ j := if_neg h
theorem Tri.upd {σ : Nat → Int} (h : Tri σ) (i : Nat) {v : Int} (hv : v = 1 ∨ v = 0 ∨ v = -1) : Tri (upd σ i v) := fun j => by
  unfold TC.upd; split
  · exact hv
  · exact h j

section
variable {P : List Nat} {p : Nat} {d : Nat → Int} {N : Nat → Bool}
noncomputable def nN (N : Nat → Bool) (i : Nat) : Int := if N i then 1 else 0
theorem Qg (N : Nat → Bool) (i : Nat) : (N i = true ∧ nN N i = 1) ∨ (N i = false ∧ nN N i = 0) := by
  unfold nN; cases N i
  · exact .inr ⟨rfl, rfl⟩
  · exact .inl ⟨rfl, rfl⟩
theorem EG.at_p (h : EG (p :: P) d) (hp : p ∉ P) {σ : Nat → Int} (t : Tri σ) (s : Int) (hs : s = 1 ∨ s = 0 ∨ s = -1) :
    s * d p + sm P (fun i => σ i * d i) ≤ (ps s + sm P fun i => ps (σ i)) * (P.length - (ng s + sm P fun i => ng (σ i))) := by
  have := h (upd σ p s) (t.upd p hs)
  rw [JI, JI, JI, Jv, List.length_cons] at this
  have off : ∀ i ∈ P, upd σ p s i = σ i := fun i hi => JZ σ s fun e => hp (e ▸ hi)
  rw [JG (f := fun i => upd σ p s i * d i) (g := fun i => σ i * d i) fun i hi => by rw [off i hi],
    JG (f := fun i => ps (upd σ p s i)) (g := fun i => ps (σ i)) fun i hi => by rw [off i hi],
    JG (f := fun i => ng (upd σ p s i)) (g := fun i => ng (σ i)) fun i hi => by rw [off i hi]] at this
  have e : ((P.length + 1 : Nat) : Int) - 1 - (ng s + sm P fun i => ng (σ i)) = P.length - (ng s + sm P fun i => ng (σ i)) := by lia
  rw [e] at this
  exact this
theorem EG.off (hN : EG P d) (hp : p ∉ P) (h0 : d p = 0) : EG (p :: P) d := fun σ t => by
  have h := hN σ t
  rw [JI, JI, JI, h0, Int.mul_zero, List.length_cons, Int.zero_add]
  have a0 : 0 ≤ sm P fun i => ps (σ i) := Jh fun i _ => by unfold ps; split <;> decide
  have ab : (sm P fun i => ps (σ i)) + (sm P fun i => ng (σ i)) ≤ P.length := by
    rw [← QH, ← QZ]
    refine Qj fun i _ => ?_
    rcases t i with e | e | e <;> rw [e] <;> decide
  generalize (sm P fun i => ps (σ i)) = a at *
  generalize (sm P fun i => ng (σ i)) = b at *
  generalize (sm P fun i => σ i * d i) = x at *
  generalize hm : (P.length : Int) = m at *
  have e : (((P.length + 1 : Nat) : Int)) = m + 1 := by lia
  rw [e]
  have q := Int.mul_nonneg a0 (by lia : 0 ≤ m - a - b)
  rcases t p with e | e | e <;> rw [e]
  · rw [ps1, ng1]
    have : (1 + a) * (m + 1 - 1 - (0 + b)) = a * (m - 1 - b) + a + (m - b) := by
      have e : m + 1 - 1 - (0 + b) = (m - 1 - b) + 1 := by lia
      rw [e, Int.add_mul, Int.mul_add a]; lia
    lia
  · rw [ps0, ng0]
    have : (0 + a) * (m + 1 - 1 - (0 + b)) = a * (m - 1 - b) + a := by
      have e : m + 1 - 1 - (0 + b) = (m - 1 - b) + 1 := by lia
      rw [e, Int.zero_add, Int.mul_add]; lia
    lia
  · rw [psm, ngm]
    have : (0 + a) * (m + 1 - 1 - (1 + b)) = a * (m - 1 - b) := by
      have e : m + 1 - 1 - (1 + b) = (m - 1 - b) := by lia
      rw [e, Int.zero_add]
    lia

theorem mul_c1 (A L B : Int) : (A + (0 - 1)) * (L - 1 - (B + (0 - 0))) = A * (L - 1 - B) - (L - 1 - B) := by
  have e : L - 1 - (B + (0 - 0)) = L - 1 - B := by lia
  rw [e, Int.add_mul]; lia
theorem mul_c2 (A L B : Int) : (A + (1 - 0)) * (L - 1 - (B + (0 - 0))) = A * (L - 1 - B) + (L - 1 - B) := by
  have e : L - 1 - (B + (0 - 0)) = L - 1 - B := by lia
  rw [e, Int.add_mul]; lia
theorem mul_c3 (A L B : Int) : (A + (0 - 0)) * (L - 1 - (B + (1 - 0))) = A * (L - 1 - B) - A := by
  have e : L - 1 - (B + (1 - 0)) = L - 1 - B - 1 := by lia
  rw [e, Int.sub_self, Int.add_zero, Int.mul_sub A _ 1, Int.mul_one]
theorem mul_c4 (A L B : Int) : (A + (0 - 0)) * (L - 1 - (B + (0 - 1))) = A * (L - 1 - B) + A := by
  have e : L - 1 - (B + (0 - 1)) = L - 1 - B + 1 := by lia
  rw [e, Int.sub_self, Int.add_zero, Int.mul_add A _ 1, Int.mul_one]
theorem EG.lay (h : EG (p :: P) d) (hp : p ∉ P) (nd : P.Nodup) (top : ∀ i ∈ P, ∀ j ∈ P, N i = true → N j = false → d j ≤ d i) (hD : sm P (nN N) = d p) {w : Int} (ev : d p + sm P d = 2 * w) :
    EG P (fun i => d i - nN N i) := fun σ₀ t₀ => by
  refine Int.not_lt.mp fun bad => ?_
  let F : (Nat → Int) → Int := fun σ => sm P (fun i => σ i * (d i - nN N i)) - sm P (fun i => ps (σ i)) * (P.length - 1 - sm P fun i => ng (σ i))
  let e : Nat → Int := fun i => if N i then 1 else -1
  let W : (Nat → Int) → Int := fun σ => 2 * F σ + sm P (fun i => e i * σ i)
  have ab : ∀ σ, Tri σ → 0 ≤ (sm P fun i => ps (σ i)) ∧ 0 ≤ (sm P fun i => ng (σ i)) ∧ (sm P fun i => ps (σ i)) + (sm P fun i => ng (σ i)) ≤ P.length := fun σ t => by
    refine ⟨Jh fun i _ => by unfold ps; split <;> decide, Jh fun i _ => by unfold ng; split <;> decide, ?_⟩
    rw [← QH, ← QZ]
    refine Qj fun i _ => ?_
    rcases t i with e | e | e <;> rw [e] <;> decide
  have bd : ∀ σ, Tri σ ∧ 0 < F σ → W σ ≤ 2 * sm P (fun i => (d i - nN N i).natAbs) + P.length := fun σ hσ => by
    have t := hσ.1
    obtain ⟨a0, b0, le⟩ := ab σ t
    have h1 : sm P (fun i => σ i * (d i - nN N i)) ≤ sm P (fun i => ((d i - nN N i).natAbs : Int)) := Qj fun i _ => by
      rcases t i with e | e | e <;> rw [e] <;> lia
    have h2 : sm P (fun i => e i * σ i) ≤ P.length := by
      rw [← QZ]
      refine Qj fun i _ => ?_
      show (if N i then (1 : Int) else -1) * σ i ≤ 1
      rcases t i with e | e | e <;> rw [e] <;> cases N i <;> decide
    have h3 : 0 ≤ sm P (fun i => ps (σ i)) * (P.length - 1 - sm P fun i => ng (σ i)) := by
      rcases Int.lt_or_eq_of_le a0 with g | g
      · exact Int.mul_nonneg a0 (by lia)
      · rw [← g, Int.zero_mul]; exact Int.le_refl 0
    show 2 * (_ - _) + _ ≤ _
    lia
  obtain ⟨σ, ⟨t, pos⟩, best⟩ := ZFp (Q := fun σ => Tri σ ∧ 0 < F σ) W _ bd σ₀ ⟨t₀, Int.sub_pos.mpr bad⟩
  obtain ⟨a0, b0, le⟩ := ab σ t
  have mv : ∀ i ∈ P, ∀ v, v = 1 ∨ v = 0 ∨ v = -1 → F (upd σ i v) = sm P (fun i => σ i * (d i - nN N i)) + (v - σ i) * (d i - nN N i) - (sm P (fun i => ps (σ i)) + (ps v - ps (σ i))) * (P.length - 1 - (sm P (fun i => ng (σ i)) + (ng v - ng (σ i)))) ∧ sm P (fun j => e j * upd σ i v j) = sm P (fun i => e i * σ i) + e i * (v - σ i) := fun i hi v hv => by
    have o : ∀ j ∈ P, j ≠ i → upd σ i v j = σ j := fun j _ ne => JZ σ v ne
    refine ⟨?_, ?_⟩
    · show sm P _ - sm P _ * (_ - sm P _) = _
      rw [Ju nd hi (f := fun i => σ i * (d i - nN N i)) (g := fun j => upd σ i v j * (d j - nN N j)) fun j hj ne => by rw [o j hj ne],
        Ju nd hi (f := fun i => ps (σ i)) (g := fun j => ps (upd σ i v j)) fun j hj ne => by rw [o j hj ne],
        Ju nd hi (f := fun i => ng (σ i)) (g := fun j => ng (upd σ i v j)) fun j hj ne => by rw [o j hj ne]]
      rw [Jv, Int.sub_mul]
    · rw [Ju nd hi (f := fun i => e i * σ i) (g := fun j => e j * upd σ i v j) fun j hj ne => by rw [o j hj ne], Jv, Int.mul_sub]
  have st : ∀ i ∈ P, ∀ v, v = 1 ∨ v = 0 ∨ v = -1 → 2 * (F (upd σ i v) - F σ) + e i * (v - σ i) ≤ 0 ∨ F (upd σ i v) ≤ 0 := fun i hi v hv => by
    by_cases g : 0 < F (upd σ i v)
    · have := best _ ⟨t.upd i hv, g⟩
      have : 2 * F (upd σ i v) + sm P (fun j => e j * upd σ i v j) ≤ 2 * F σ + sm P (fun i => e i * σ i) := this
      rw [(mv i hi v hv).2] at this
      exact .inl (by lia)
    · exact .inr (by lia)
  have en : ∀ i, (N i = true ∧ nN N i = 1 ∧ e i = 1) ∨ (N i = false ∧ nN N i = 0 ∧ e i = -1) := fun i => by
    show (N i = true ∧ nN N i = 1 ∧ (if N i then (1 : Int) else -1) = 1) ∨ (N i = false ∧ nN N i = 0 ∧ (if N i then (1 : Int) else -1) = -1)
    unfold nN
    cases N i
    · exact .inr ⟨rfl, rfl, rfl⟩
    · exact .inl ⟨rfl, rfl, rfl⟩
  have Fσ : F σ = sm P (fun i => σ i * (d i - nN N i)) - sm P (fun i => ps (σ i)) * (P.length - 1 - sm P fun i => ng (σ i)) := rfl
  have E1 := h.at_p hp t 1 (.inl rfl)
  have E0 := h.at_p hp t 0 (.inr (.inl rfl))
  have Em := h.at_p hp t (-1) (.inr (.inr rfl))
  have pos' : 0 < sm P (fun i => σ i * (d i - nN N i)) - sm P (fun i => ps (σ i)) * (P.length - 1 - sm P fun i => ng (σ i)) := pos
  have cl : ∀ i ∈ P, (σ i = 1 → P.length - 1 - (sm P fun i => ng (σ i)) + 1 ≤ d i) ∧ (σ i = 0 → (sm P fun i => ps (σ i)) + 1 ≤ d i ∧ d i ≤ P.length - 1 - (sm P fun i => ng (σ i))) ∧ (σ i = -1 → d i ≤ sm P fun i => ps (σ i)) := fun i hi => by
    have ei := en i
    refine ⟨fun s => ?_, fun s => ⟨?_, ?_⟩, fun s => ?_⟩
    · have m := (mv i hi 0 (.inr (.inl rfl))).1
      have q := st i hi 0 (.inr (.inl rfl))
      rw [s, ps0, ps1, ng0, ng1, mul_c1] at m
      rw [m, Fσ, s] at q
      rcases ei with ⟨_, e2, e3⟩ | ⟨_, e2, e3⟩ <;> rw [e2, e3] at q <;> lia
    · have m := (mv i hi (-1) (.inr (.inr rfl))).1
      have q := st i hi (-1) (.inr (.inr rfl))
      rw [s, ps0, psm, ng0, ngm, mul_c3] at m
      rw [m, Fσ, s] at q
      rcases ei with ⟨_, e2, e3⟩ | ⟨_, e2, e3⟩ <;> rw [e2, e3] at q <;> lia
    · have m := (mv i hi 1 (.inl rfl)).1
      have q := st i hi 1 (.inl rfl)
      rw [s, ps0, ps1, ng0, ng1, mul_c2] at m
      rw [m, Fσ, s] at q
      rcases ei with ⟨_, e2, e3⟩ | ⟨_, e2, e3⟩ <;> rw [e2, e3] at q <;> lia
    · have m := (mv i hi 0 (.inr (.inl rfl))).1
      have q := st i hi 0 (.inr (.inl rfl))
      rw [s, ps0, psm, ng0, ngm, mul_c4] at m
      rw [m, Fσ, s] at q
      rcases ei with ⟨_, e2, e3⟩ | ⟨_, e2, e3⟩ <;> rw [e2, e3] at q <;> lia
  clear mv st best bd ab bad
  have Sn : sm P (fun i => σ i * (d i - nN N i)) = sm P (fun i => σ i * d i) - (sm P (fun i => ps (σ i) * nN N i) - sm P (fun i => ng (σ i) * nN N i)) := by
    rw [← Jp, ← Jp]
    refine JG fun i _ => ?_
    rcases t i with e | e | e <;> rw [e]
    · rw [ps1, ng1]; lia
    · rw [ps0, ng0]; lia
    · rw [psm, ngm]; lia
  have Dn : sm P (fun i => ps (σ i) * nN N i) + sm P (fun i => ng (σ i) * nN N i) + sm P (fun i => (1 - ps (σ i) - ng (σ i)) * nN N i) = d p := by
    rw [← hD, ← QH, ← QH]
    refine JG fun i _ => ?_
    rcases t i with e | e | e <;> rw [e]
    · rw [ps1, ng1]; lia
    · rw [ps0, ng0]; lia
    · rw [psm, ngm]; lia
  have Cc : sm P (fun i => 1 - ps (σ i) - ng (σ i)) = P.length - (sm P fun i => ps (σ i)) - (sm P fun i => ng (σ i)) := by rw [Jp, Jp, QZ]
  have Mu : ∀ A L B : Int, (0 + A) * (L - (0 + B)) = A * (L - 1 - B) + A ∧ (1 + A) * (L - (0 + B)) = A * (L - 1 - B) + A + (L - B) ∧ (0 + A) * (L - (1 + B)) = A * (L - 1 - B) := fun A L B => by
    have e1 : L - (0 + B) = L - 1 - B + 1 := by lia
    have e2 : L - (1 + B) = L - 1 - B := by lia
    rw [e1, e2, Int.zero_add, Int.add_mul, Int.mul_add]; lia
  rw [ps1, ng1, (Mu _ _ _).2.1] at E1
  rw [ps0, ng0, (Mu _ _ _).1] at E0
  rw [psm, ngm, (Mu _ _ _).2.2] at Em
  rw [Sn] at pos'
  have zN : ∀ {f : Nat → Int}, (∀ i ∈ P, N i = true → f i = 0) → sm P (fun i => f i * nN N i) = 0 := fun {f} q => by
    rw [show (0 : Int) = sm P (fun _ => 0 * 0) by rw [XC, Int.zero_mul]]
    refine JG fun i hi => ?_
    rcases Qg N i with ⟨e1, e2⟩ | ⟨e1, e2⟩
    · rw [q i hi e1, Int.zero_mul, Int.zero_mul]
    · rw [e2, Int.mul_zero, Int.zero_mul]
  have aN : ∀ {f : Nat → Int}, (∀ i ∈ P, N i = false → f i = 0) → sm P (fun i => f i * nN N i) = sm P f := fun {f} q => by
    refine JG fun i hi => ?_
    rcases Qg N i with ⟨e1, e2⟩ | ⟨e1, e2⟩
    · rw [e2, Int.mul_one]
    · rw [q i hi e1, Int.zero_mul]
  by_cases hA : ∃ x ∈ P, σ x = 1 ∧ N x = false
  · obtain ⟨x, hx, x1, xN⟩ := hA
    have dx := (cl x hx).1 x1
    by_cases hB : ∃ y ∈ P, N y = true ∧ σ y ≠ 1
    · obtain ⟨y, hy, yN, y1⟩ := hB
      have dy := top y hy x hx yN xN
      have c0 : (P.length : Int) - (sm P fun i => ps (σ i)) - (sm P fun i => ng (σ i)) = 0 := by
        rcases t y with e | e | e
        · exact absurd e y1
        · have := (cl y hy).2.1 e; lia
        · have := (cl y hy).2.2 e; lia
      have n0 : ∀ i ∈ P, σ i ≠ 0 := fun i hi e => by have := (cl i hi).2.1 e; lia
      have ym : σ y = -1 := ((t y).resolve_left y1).resolve_left (n0 y hy)
      have dya := (cl y hy).2.2 ym
      let τ : Nat → Int := fun i => if N i then ps (σ i) else - ng (σ i)
      have tτ : Tri τ := fun i => by
        show (if N i then ps (σ i) else - ng (σ i)) = 1 ∨ (if N i then ps (σ i) else - ng (σ i)) = 0 ∨ (if N i then ps (σ i) else - ng (σ i)) = -1
        rcases t i with e | e | e <;> rw [e] <;> cases N i <;> decide
      have E := h.at_p hp tτ 0 (.inr (.inl rfl))
      have k1 : sm P (fun i => ps (τ i)) = sm P (fun i => ps (σ i) * nN N i) := JG fun i hi => by
        show ps (if N i then ps (σ i) else - ng (σ i)) = _
        unfold nN
        rcases t i with e | e | e <;> rw [e] <;> cases N i <;> decide
      have k2 : sm P (fun i => ng (τ i)) = sm P (fun i => ng (σ i)) - sm P (fun i => ng (σ i) * nN N i) := by
        rw [← Jp]
        refine JG fun i hi => ?_
        show ng (if N i then ps (σ i) else - ng (σ i)) = _
        unfold nN
        rcases t i with e | e | e <;> rw [e] <;> cases N i <;> decide
      have k3 : sm P (fun i => σ i * d i) = sm P (fun i => τ i * d i) + (sm P fun i => ps (σ i)) * (sm P (fun i => ps (σ i)) - sm P (fun i => ps (σ i) * nN N i) - sm P (fun i => ng (σ i) * nN N i)) := by
        rw [← Jp, ← Jp, ← XC, ← QH]
        refine JG fun i hi => ?_
        show _ = (if N i then ps (σ i) else - ng (σ i)) * d i + _
        rcases t i with e | e | e
        · rcases Qg N i with ⟨e1, e2⟩ | ⟨e1, e2⟩
          · rw [e, e1, e2, if_pos rfl, ps1, ng1]; lia
          · have h1 := (cl i hi).1 e
            have h2 := top y hy i hi yN e1
            have : d i = sm P fun i => ps (σ i) := by lia
            rw [e, e1, e2, if_neg (by decide), ps1, ng1, this]; lia
        · exact absurd e (n0 i hi)
        · rcases Qg N i with ⟨e1, e2⟩ | ⟨e1, e2⟩
          · have h1 := (cl i hi).2.2 e
            have h2 := top i hi x hx e1 xN
            have : d i = sm P fun i => ps (σ i) := by lia
            rw [e, e1, e2, if_pos rfl, psm, ngm, this]; lia
          · rw [e, e1, e2, if_neg (by decide), psm, ngm]; lia
      have g1 : sm P (fun i => ps (σ i) * nN N i) + 1 ≤ sm P (fun i => ps (σ i)) := by
        have := Ju (f := fun i => ps (σ i) * nN N i) (g := upd (fun i => ps (σ i) * nN N i) x 1) nd hx fun j _ ne => JZ _ _ ne
        rw [Jv, x1] at this
        rcases Qg N x with ⟨e1, e2⟩ | ⟨e1, e2⟩
        · rw [xN] at e1; cases e1
        · rw [e2] at this
          have le : sm P (upd (fun i => ps (σ i) * nN N i) x 1) ≤ sm P (fun i => ps (σ i)) := Qj fun i hi => by
            unfold upd
            split
            · rename_i e; rw [e, x1]; decide
            · dsimp only; unfold nN; rcases t i with e | e | e <;> rw [e] <;> cases N i <;> decide
          rw [ps1] at this; lia
      have g2 : 1 ≤ sm P (fun i => ng (σ i) * nN N i) := by
        have := Ju (f := fun i => ng (σ i) * nN N i) (g := upd (fun i => ng (σ i) * nN N i) y 0) nd hy fun j _ ne => JZ _ _ ne
        rw [Jv, ym] at this
        rcases Qg N y with ⟨e1, e2⟩ | ⟨e1, e2⟩
        · rw [e2] at this
          have le : 0 ≤ sm P (upd (fun i => ng (σ i) * nN N i) y 0) := Jh fun i hi => by
            unfold upd
            split
            · exact Int.le_refl 0
            · dsimp only; unfold nN; rcases t i with e | e | e <;> rw [e] <;> cases N i <;> decide
          rw [ngm] at this; lia
        · rw [yN] at e1; cases e1
      rw [k1, k2, ps0, ng0] at E
      have par : ∃ v, sm P (fun i => σ i * d i) - (sm P (fun i => ps (σ i) * nN N i) - sm P (fun i => ng (σ i) * nN N i)) = 2 * v := by
        rw [← Sn]
        refine ⟨w - d p - sm P (fun i => ng (σ i) * (d i - nN N i)), ?_⟩
        have : sm P (fun i => σ i * (d i - nN N i)) = sm P d - sm P (nN N) - 2 * sm P (fun i => ng (σ i) * (d i - nN N i)) := by
          rw [← XC, ← Jp, ← Jp]
          refine JG fun i hi => ?_
          rcases t i with e | e | e
          · rw [e, ng1]; lia
          · exact absurd e (n0 i hi)
          · rw [e, ngm]; lia
        lia
      obtain ⟨v, hv⟩ := par
      have par2 : ∀ a : Int, ∃ u, a * (a - 1) = 2 * u := fun a => by
        rcases Int.emod_two_eq a with e | e
        · refine ⟨a / 2 * (a - 1), ?_⟩; rw [← Int.mul_assoc]; congr 1; lia
        · refine ⟨a * ((a - 1) / 2), ?_⟩
          rw [Int.mul_left_comm]; congr 1; lia
      obtain ⟨u, hu⟩ := par2 (sm P fun i => ps (σ i))
      have eL : (P.length : Int) - 1 - (sm P fun i => ng (σ i)) = (sm P fun i => ps (σ i)) - 1 := by lia
      rw [eL] at pos'
      have eL2 : (P.length : Int) - (0 + (sm P (fun i => ng (σ i)) - sm P (fun i => ng (σ i) * nN N i))) = (sm P fun i => ps (σ i)) + sm P (fun i => ng (σ i) * nN N i) := by lia
      rw [eL2, Int.zero_mul, Int.zero_add, Int.zero_add] at E
      clear cl top Sn Dn Cc Mu zN aN k1 k2 tτ E0 E1 Em n0 hD
      generalize (sm P fun i => ps (σ i)) = a at *
      generalize sm P (fun i => ng (σ i) * nN N i) = bN at *
      generalize sm P (fun i => ps (σ i) * nN N i) = aN at *
      generalize sm P (fun i => τ i * d i) = z at *
      generalize sm P (fun i => σ i * d i) = x' at *
      have q := Int.mul_nonneg (by lia : 0 ≤ a - aN - 1) (by lia : 0 ≤ bN - 1)
      have q2 : (a - aN - 1) * (bN - 1) = a * bN - aN * bN - bN - (a - aN - 1) := by rw [Int.mul_sub, Int.sub_mul, Int.sub_mul]; lia
      have q3 : aN * (a + bN) = aN * a + aN * bN := Int.mul_add ..
      have q4 : a * (a - aN - bN) = a * a - a * aN - a * bN := by rw [Int.mul_sub, Int.mul_sub]
      have q5 : a * (a - 1) = a * a - a := by rw [Int.mul_sub, Int.mul_one]
      have q6 : aN * a = a * aN := Int.mul_comm ..
      lia
    · -- all that is laid at is many
      have all : ∀ y ∈ P, N y = true → σ y = 1 := fun y hy yN => Classical.byContradiction fun ne => hB ⟨y, hy, yN, ne⟩
      rw [zN (f := fun i => ng (σ i)) fun i hi e => by rw [all i hi e]; rfl] at Dn pos'
      rw [zN (f := fun i => 1 - ps (σ i) - ng (σ i)) fun i hi e => by rw [all i hi e]; rfl] at Dn
      lia
  · have inN : ∀ x ∈ P, σ x = 1 → N x = true := fun x hx x1 => by
      cases e : N x with
      | true => rfl
      | false => exact absurd ⟨x, hx, x1, e⟩ hA
    rw [aN (f := fun i => ps (σ i)) fun i hi e => by
      rcases t i with s | s | s
      · rw [inN i hi s] at e; cases e
      · rw [s]; rfl
      · rw [s]; rfl] at Dn pos'
    by_cases hB : ∃ y ∈ P, N y = true ∧ σ y = -1
    · obtain ⟨y, hy, yN, ym⟩ := hB
      have dy := (cl y hy).2.2 ym
      rw [aN (f := fun i => 1 - ps (σ i) - ng (σ i)) fun i hi e => by
        rcases t i with s | s | s
        · rw [s]; rfl
        · have := ((cl i hi).2.1 s).1; have := top y hy i hi yN e; lia
        · rw [s]; rfl] at Dn
      lia
    · rw [zN (f := fun i => ng (σ i)) fun i hi e => by
        rcases t i with s | s | s
        · rw [s]; rfl
        · rw [s]; rfl
        · exact absurd ⟨i, hi, e, s⟩ hB] at pos'
      lia
end
end TC

namespace TC

noncomputable def cnt (ts : List (Nat × Nat)) (p : Nat) : Nat := ts.countP fun t => decide (t.1 = p) || decide (t.2 = p)
noncomputable def tieOf (a b : Nat) : Nat × Nat := (min a b, max a b)
noncomputable def hs (ts : Ties) (a b : Nat) : Bool := decide (tieOf a b ∈ ts)
noncomputable def bi (b : Bool) : Int := if b then 1 else 0
theorem Wb (b : Bool) : 0 ≤ bi b ∧ bi b ≤ 1 := by cases b <;> decide
theorem Xx (a b : Nat) : tieOf a b = tieOf b a := by unfold tieOf; rw [Nat.min_comm, Nat.max_comm]
theorem QJ (ts : Ties) (a b : Nat) : hs ts a b = hs ts b a := by unfold hs; rw [Xx]
theorem VT {a b : Nat} (h : a < b) : tieOf a b = (a, b) := by unfold tieOf; rw [Nat.min_eq_left (Nat.le_of_lt h), Nat.max_eq_right (Nat.le_of_lt h)]
theorem ZDr {a b : Nat} (h : a < b) : tieOf b a = (a, b) := by rw [Xx, VT h]
theorem Web.hs_self {n : Nat} {ts : Ties} (w : Web n ts) (a : Nat) : hs ts a a = false := by
  unfold hs tieOf
  rw [Nat.min_self, Nat.max_self]
  exact decide_eq_false fun h => by have := w.2 _ h; dsimp only at this; lia
theorem Vf {n : Nat} : ∀ {ts : Ties}, Web n ts → ∀ p, (cnt ts p : Int) = sm (List.range n) (fun x => bi (hs ts p x))
  | [], _, p => by
    have : sm (List.range n) (fun x => bi (hs [] p x)) = sm (List.range n) (fun x => 0 * 0) := JG fun x _ => rfl
    rw [this, XC, Int.zero_mul]; rfl
  | t :: ts, w, p => by
    have nd := List.nodup_cons.mp w.1
    have wt := w.2 t (.head _)
    have w' : Web n ts := ⟨nd.2, fun u hu => w.2 u (.tail _ hu)⟩
    have ih := Vf w' p
    have nr : (List.range n).Nodup := List.nodup_range
    have hc : ∀ x, hs (t :: ts) p x = (decide (tieOf p x = t) || hs ts p x) := fun x => by
      unfold hs; rw [Bool.eq_iff_iff]; simp
    have no : ∀ x, tieOf p x = t → hs ts p x = false := fun x e => decide_eq_false (e ▸ nd.1)
    have step : ∀ y, y < n → tieOf p y = t → (∀ x, x ≠ y → tieOf p x ≠ t) → sm (List.range n) (fun x => bi (hs (t :: ts) p x)) = sm (List.range n) (fun x => bi (hs ts p x)) + 1 := fun y hy e ne => by
      rw [Ju nr (List.mem_range.mpr hy) (f := fun x => bi (hs ts p x)) (g := fun x => bi (hs (t :: ts) p x)) fun j _ q => by rw [hc j, decide_eq_false (ne j q), Bool.false_or]]
      rw [hc y, no y e, decide_eq_true e]; rfl
    unfold cnt at ih ⊢
    rw [List.countP_cons]
    obtain ⟨a, b⟩ := t
    dsimp only at wt ⊢
    by_cases e1 : a = p
    · subst e1
      rw [step b wt.2 (VT wt.1) fun x ne e => ne (by
        unfold tieOf at e
        have := congrArg Prod.snd e; have h2 := congrArg Prod.fst e; dsimp only at this h2; lia), ← ih, decide_eq_true rfl, Bool.true_or, if_pos rfl]
      lia
    · by_cases e2 : b = p
      · subst e2
        rw [step a (by lia) (ZDr wt.1) fun x ne e => ne (by
          unfold tieOf at e
          have := congrArg Prod.snd e; have h2 := congrArg Prod.fst e; dsimp only at this h2; lia), ← ih, decide_eq_true rfl, Bool.or_true, if_pos rfl]
        lia
      · rw [decide_eq_false e1, decide_eq_false e2, if_neg (by decide), Nat.add_zero, ih]
        refine JG fun x _ => ?_
        have : decide (tieOf p x = (a, b)) = false := decide_eq_false fun e => by
          unfold tieOf at e
          have := congrArg Prod.snd e; have h2 := congrArg Prod.fst e; dsimp only at this h2; lia
        rw [hc x, this, Bool.false_or]
theorem XI (P : List Nat) : sm P (fun _ => 0) = 0 := by
  induction P with
  | nil => rfl
  | cons a P ih => rw [JI, ih]; rfl
theorem ZHc (P R : List Nat) (f : Nat → Nat → Int) : sm P (fun i => sm R fun j => f i j) = sm R (fun j => sm P fun i => f i j) := by
  induction P with
  | nil => exact (XI R).symm
  | cons a P ih =>
    rw [JI, ih, ← QH]
    exact JG fun j _ => (JI a P fun i => f i j).symm
theorem XO {n : Nat} : ∀ {ts : Ties}, Web n ts → sm (List.range n) (fun p => cnt ts p) = 2 * ts.length
  | [], _ => XI _
  | t :: ts, w => by
    have nd := List.nodup_cons.mp w.1
    have wt := w.2 t (.head _)
    have ih := XO (n := n) (ts := ts) ⟨nd.2, fun u hu => w.2 u (.tail _ hu)⟩
    have nr : (List.range n).Nodup := List.nodup_range
    have e : ∀ p, (cnt (t :: ts) p : Int) = cnt ts p + (bi (decide (t.1 = p)) + bi (decide (t.2 = p))) := fun p => by
      unfold cnt bi
      rw [List.countP_cons]
      by_cases e1 : t.1 = p
      · have e2 : ¬ t.2 = p := by lia
        rw [decide_eq_true e1, decide_eq_false e2]; rfl
      · by_cases e2 : t.2 = p
        · rw [decide_eq_false e1, decide_eq_true e2]; rfl
        · rw [decide_eq_false e1, decide_eq_false e2]; rfl
    have one : ∀ q, q < n → sm (List.range n) (fun p => bi (decide (q = p))) = 1 := fun q hq => by
      rw [Ju nr (List.mem_range.mpr hq) (f := fun _ => 0) (g := fun p => bi (decide (q = p))) fun j _ ne => by rw [decide_eq_false ne.symm]; rfl, XI, decide_eq_true rfl]; rfl
    rw [JG fun p _ => e p, QH, QH, ih, one _ (by lia), one _ wt.2, List.length_cons]
    lia
theorem Ui {n : Nat} {ts : Ties} (w : Web n ts) {ps : List Nat} (pm : ps.Perm (List.range n)) (k : Nat) (hk : k ≤ n) :
    sm (ps.take k) (fun i => cnt ts i) ≤ k * (k - 1) + sm (ps.drop k) (fun i => min (cnt ts i : Int) k) := by
  have nd : ps.Nodup := pm.symm.nodup List.nodup_range
  have lk : (ps.take k).length = k := by rw [List.length_take, pm.length_eq, List.length_range]; lia
  have e : ∀ i, (cnt ts i : Int) = sm (ps.take k) (fun j => bi (hs ts i j)) + sm (ps.drop k) (fun j => bi (hs ts i j)) := fun i => by
    rw [Vf w, ← XB, List.take_append_drop, QD pm]
  have e1 : sm (ps.take k) (fun i => cnt ts i) = sm (ps.take k) (fun i => sm (ps.take k) fun j => bi (hs ts i j)) + sm (ps.drop k) (fun j => sm (ps.take k) fun i => bi (hs ts i j)) := by
    rw [JG fun i _ => e i, QH, ZHc (ps.take k) (ps.drop k)]
  rw [e1]
  refine Int.add_le_add ?_ (Qj fun j _ => ?_)
  · have : (k : Int) * (k - 1) = sm (ps.take k) (fun _ => (k - 1 : Int) * 1) := by rw [XC, QZ, lk, Int.mul_comm]
    rw [this]
    refine Qj fun i hi => ?_
    have ndt : (ps.take k).Nodup := (List.take_sublist k ps).nodup nd
    have h2 := Ju ndt hi (f := fun j => bi (hs ts i j)) (g := upd (fun j => bi (hs ts i j)) i 1) fun j _ ne => JZ _ _ ne
    rw [Jv, w.hs_self] at h2
    have h3 : sm (ps.take k) (upd (fun j => bi (hs ts i j)) i 1) ≤ sm (ps.take k) (fun _ => 1) := Qj fun j _ => by
      unfold upd; split
      · exact Int.le_refl _
      · exact (Wb _).2
    rw [QZ, lk] at h3
    have : bi false = 0 := rfl
    lia
  · have h1 : sm (ps.take k) (fun i => bi (hs ts i j)) ≤ k := by
      have := Qj (P := ps.take k) (f := fun i => bi (hs ts i j)) (g := fun _ => 1) fun i _ => (Wb _).2
      rw [QZ, lk] at this; exact this
    have h2 : sm (ps.take k) (fun i => bi (hs ts i j)) ≤ cnt ts j := by
      rw [e j, JG (f := fun i => bi (hs ts i j)) (g := fun i => bi (hs ts j i)) fun i _ => by rw [QJ]]
      have := Jh (P := ps.drop k) (f := fun i => bi (hs ts j i)) fun i _ => (Wb _).1
      lia
    lia
theorem ZHg {ps : List Nat} {g σ : Nat → Int} {k : Nat} (hk : k ≤ ps.length) (so : ps.Pairwise fun i j => g j ≤ g i) (g0 : ∀ i ∈ ps, 0 ≤ g i) (s : ∀ i, 0 ≤ σ i ∧ σ i ≤ 1) (ks : sm ps σ = k) :
    sm ps (fun i => σ i * g i) ≤ sm (ps.take k) g := by
  have so' := so
  rw [← List.take_append_drop k ps, List.pairwise_append] at so'
  obtain ⟨θ, t1, t2⟩ : ∃ θ, (∀ i ∈ ps.take k, θ ≤ g i) ∧ ∀ i ∈ ps.drop k, g i ≤ θ := by
    cases e : ps.drop k with
    | nil => exact ⟨0, fun i hi => g0 i (List.mem_of_mem_take hi), fun i hi => by cases hi⟩
    | cons r l =>
      refine ⟨g r, fun i hi => so'.2.2 i hi r (by rw [e]; exact .head _), fun i hi => ?_⟩
      rw [e] at so'
      cases hi with
      | head => exact Int.le_refl _
      | tail _ hi => exact (List.pairwise_cons.mp so'.2.1).1 i hi
  have e1 : sm ps (fun i => σ i * g i) = sm (ps.take k) (fun i => σ i * g i) + sm (ps.drop k) (fun i => σ i * g i) := by rw [← XB, List.take_append_drop]
  have e2 : sm ps σ = sm (ps.take k) σ + sm (ps.drop k) σ := by rw [← XB, List.take_append_drop]
  have h1 : sm (ps.take k) (fun i => σ i * g i) + (θ * k - θ * sm (ps.take k) σ) ≤ sm (ps.take k) g := by
    have lk : (k : Int) = sm (ps.take k) (fun _ => 1) := by rw [QZ, List.length_take, Nat.min_eq_left hk]
    rw [lk, ← XC, ← XC, ← Jp, ← QH]
    refine Qj fun i hi => ?_
    have q := Int.mul_nonneg (Int.sub_nonneg_of_le (s i).2) (Int.sub_nonneg_of_le (t1 i hi))
    rw [Int.sub_mul, Int.mul_sub (σ i)] at q
    have : σ i * θ = θ * σ i := Int.mul_comm ..
    lia
  have h2 : sm (ps.drop k) (fun i => σ i * g i) ≤ θ * sm (ps.drop k) σ := by
    rw [← XC]
    refine Qj fun i hi => ?_
    rw [Int.mul_comm]
    exact Int.mul_le_mul_of_nonneg_right (t2 i hi) (s i).1
  have h3 : θ * k = θ * sm (ps.take k) σ + θ * sm (ps.drop k) σ := by rw [← Int.mul_add, ← e2, ks]
  lia
theorem Wn {n : Nat} {d : Nat → Int} (d0 : ∀ i, 0 ≤ d i) {ps : List Nat} (pm : ps.Perm (List.range n)) (so : ps.Pairwise fun i j => d j ≤ d i)
    (tst : ∀ k : Nat, k ≤ n → sm (ps.take k) d ≤ k * (k - 1) + sm (ps.drop k) (fun i => min (d i) k)) : EG (List.range n) d := fun σ t => by
  have lp : ps.length = n := by rw [pm.length_eq, List.length_range]
  rw [← QD pm, ← QD pm, ← QD pm, List.length_range]
  have a0 : 0 ≤ sm ps fun i => TC.ps (σ i) := Jh fun i _ => by unfold TC.ps; split <;> decide
  have b0 : 0 ≤ sm ps fun i => ng (σ i) := Jh fun i _ => by unfold ng; split <;> decide
  have ab : (sm ps fun i => TC.ps (σ i)) + (sm ps fun i => ng (σ i)) ≤ n := by
    rw [← QH, ← lp, ← QZ]
    refine Qj fun i _ => ?_
    rcases t i with e | e | e <;> rw [e] <;> decide
  obtain ⟨k, hk⟩ : ∃ k : Nat, (sm ps fun i => TC.ps (σ i)) = k := ⟨_, (Int.toNat_of_nonneg a0).symm⟩
  have h1 := tst k (by lia)
  have h2 := ZHg (g := fun i => d i + min (d i) k) (σ := fun i => TC.ps (σ i)) (k := k) (by lia) (so.imp fun h => by lia) (fun i _ => by have := d0 i; lia) (fun i => by rcases t i with e | e | e <;> rw [e] <;> decide) hk
  have h3 : sm ps (fun i => σ i * d i) ≤ sm ps (fun i => TC.ps (σ i) * (d i + min (d i) k)) - sm ps (fun i => min (d i) k) + (k * sm ps (fun i => 1 - TC.ps (σ i) - ng (σ i))) := by
    rw [← Jp, ← XC, ← QH]
    refine Qj fun i _ => ?_
    have := d0 i
    rcases t i with e | e | e <;> rw [e]
    · rw [ps1, ng1]; lia
    · rw [ps0, ng0]; lia
    · rw [psm, ngm]; lia
  have h4 : sm ps (fun i => min (d i) k) = sm (ps.take k) (fun i => min (d i) k) + sm (ps.drop k) (fun i => min (d i) k) := by rw [← XB, List.take_append_drop]
  rw [QH] at h2
  rw [Jp, Jp, QZ, lp, hk] at h3
  rw [hk]
  generalize (sm ps fun i => ng (σ i)) = b at *
  have h5 : (k : Int) * (n - k - b) + k * (k - 1) = k * (n - 1 - b) := by rw [← Int.mul_add]; congr 1; lia
  lia
end TC

namespace TC
open PySem
noncomputable def ofPairs (ts : List (Nat × Nat)) : List PyData := ts.map fun p => .tuple [.int p.1, .int p.2]
theorem JF (a b : List (Nat × Nat)) : ofPairs a ++ ofPairs b = ofPairs (a ++ b) := (List.map_append ..).symm
theorem QS (a : List (Nat × Nat)) (n : Nat) : (ofPairs a).drop n = ofPairs (a.drop n) := (List.map_drop ..).symm
theorem QT (a : List (Nat × Nat)) (n : Nat) : (ofPairs a).take n = ofPairs (a.take n) := (List.map_take ..).symm
theorem Yr (l : List (Nat × Nat)) : (ofPairs l).length = l.length := List.length_map ..
theorem Qs (l : List (Nat × Nat)) : flats (ofPairs l) = true := by
  induction l with
  | nil => rfl
  | cons a l ih => exact ih
noncomputable def pairsTo (n : Nat) : List (Nat × Nat) := (List.range n).flatMap fun o => (List.range o).map fun i => (i, o)
theorem QU (n : Nat) : pairsTo (n + 1) = pairsTo n ++ (List.range n).map fun i => (i, n) := by
  unfold pairsTo; rw [List.range_succ, List.flatMap_append]; simp
theorem QC (n : Nat) : (pairsTo n).length ≤ n * n := by
  induction n with
  | zero => exact Nat.le_refl _
  | succ n this =>
    rw [QU, List.length_append, List.length_map, List.length_range, Nat.add_mul, Nat.mul_add]
    lia
theorem UY (n : Nat) : Web n (pairsTo n) := by
  induction n with
  | zero => exact ⟨.nil, nofun⟩
  | succ n ih =>
    rw [QU]
    refine ⟨List.nodup_append.mpr ⟨ih.1, ?_, fun a ha b hb e => ?_⟩, fun t ht => ?_⟩
    · exact List.Pairwise.map _ (fun a b h e => h (congrArg Prod.fst e)) List.nodup_range
    · obtain ⟨i, _, rfl⟩ := List.mem_map.mp hb
      have := (ih.2 a ha).2; rw [e] at this; exact Nat.lt_irrefl _ this
    · rcases List.mem_append.mp ht with h | h
      · have := ih.2 t h; lia
      · obtain ⟨i, hi, rfl⟩ := List.mem_map.mp h
        have := List.mem_range.mp hi
        exact ⟨this, Nat.lt_succ_self _⟩
noncomputable def WebOk (sz : Nat) (ts : List (Nat × Nat)) : Prop := ∃ t0 k, List.Sublist t0 (pairsTo sz) ∧ ts = t0.drop k ++ t0.take k
theorem WebOk.perm {sz : Nat} {ts : List (Nat × Nat)} (h : WebOk sz ts) : ∃ t0, List.Sublist t0 (pairsTo sz) ∧ List.Perm ts t0 := by
  obtain ⟨t0, k, h, rfl⟩ := h
  exact ⟨t0, h, List.perm_append_comm.trans (by rw [List.take_append_drop])⟩
theorem WebOk.web {sz : Nat} {ts : List (Nat × Nat)} (h : WebOk sz ts) : Web sz ts := by
  obtain ⟨t0, h, p⟩ := h.perm
  have w := UY sz
  exact ⟨p.nodup_iff.mpr (w.1.sublist h), fun t ht => w.2 t (h.subset (p.mem_iff.mp ht))⟩
theorem WebOk.length {sz : Nat} {ts : List (Nat × Nat)} (h : WebOk sz ts) (hz : sz ≤ 10) : ts.length ≤ 100 := by
  obtain ⟨t0, h, p⟩ := h.perm
  have := p.length_eq
  have := h.length_le
  have := QC sz
  have : sz * sz ≤ 10 * 10 := Nat.mul_le_mul hz hz
  lia
noncomputable def Sml (x : Int) : Prop := Builtin.Int.intBits x ≤ 1048576
theorem HV {c d : Int} {i j : Nat} (hc : Sml c) (hd : Sml d) (hi : i < 1000) (hj : j < 1000) : IntMulOk (c + 7919 * (i + 11 * j + d.fdiv 64) + 13) (c + 7919 * (i + 11 * j + d.fdiv 64) + 13) := by
  have h1 : Builtin.Int.intBits ((i : Int) + 11 * j) ≤ 64 := intBits_le_64 (by lia) (by lia)
  have h2 := intBits_add_le h1 (intBits_fdiv_le (y := 64) hd)
  have h3 := intBits_add_le (intBits_add_le hc (intBits_mul_le (show Builtin.Int.intBits 7919 ≤ 13 by decide) h2)) (show Builtin.Int.intBits 13 ≤ 4 by decide)
  exact IntMulOk.of_le h3 h3 (by decide)
theorem VB {sc : List Int} (hb : ∀ x ∈ sc, Sml x) (k : Int) : Sml (cellAt sc k) := by
  unfold cellAt
  by_cases lt : k.toNat < sc.length
  · rw [List.getD_eq_getElem?_getD, List.getElem?_eq_getElem lt]; exact hb _ (List.getElem_mem lt)
  · rw [List.getD_eq_getElem?_getD, List.getElem?_eq_none (by lia)]; show Builtin.Int.intBits 0 ≤ _; decide
theorem fmod_nonneg' {a b : Int} (h : 0 < b) : 0 ≤ a.fmod b := Int.fmod_nonneg_of_pos a h
theorem fmod_lt' {a b : Int} (h : 0 < b) : a.fmod b < b := Int.fmod_lt_of_pos a h
theorem pick {PY PN : Prop} {kd nu : Int} {i j : Nat} (h0 : 0 ≤ kd) (h6 : kd < 6) (Y : PY) (N : PN) :
    bif decide (kd < 4) then
      got (idxV (V.own (PyData.list [PyData.int 2, PyData.int 3, PyData.int 5, PyData.int 4])) kd) fun w => opW Op.mod (V.d (PyData.int nu)) w fun v => opW Op.eq v (V.d (PyData.int 0)) fun r => ifB r PY
        (bif decide (kd = 4) then 4 ≠ (0 : Int) ∧ bif decide (0 < nu.fmod 4) then PY else bif decide (kd = 5) then bif decide ((i : Int) = (j : Int) + 1) then PY else 6 ≠ (0 : Int) ∧ bif decide (nu.fmod 6 = 0) then PY else PN else PN
          else bif decide (kd = 5) then bif decide ((i : Int) = (j : Int) + 1) then PY else 6 ≠ (0 : Int) ∧ bif decide (nu.fmod 6 = 0) then PY else PN else PN)
    else (bif decide (kd = 4) then 4 ≠ (0 : Int) ∧ bif decide (0 < nu.fmod 4) then PY else bif decide (kd = 5) then bif decide ((i : Int) = (j : Int) + 1) then PY else 6 ≠ (0 : Int) ∧ bif decide (nu.fmod 6 = 0) then PY else PN else PN
          else bif decide (kd = 5) then bif decide ((i : Int) = (j : Int) + 1) then PY else 6 ≠ (0 : Int) ∧ bif decide (nu.fmod 6 = 0) then PY else PN else PN) := by
  have R5 : bif decide (kd = 5) then bif decide ((i : Int) = (j : Int) + 1) then PY else 6 ≠ (0 : Int) ∧ bif decide (nu.fmod 6 = 0) then PY else PN else PN := Ji (fun _ => Ji (fun _ => Y) fun _ => ⟨by decide, Ji (fun _ => Y) fun _ => N⟩) fun _ => N
  have R4 : bif decide (kd = 4) then 4 ≠ (0 : Int) ∧ bif decide (0 < nu.fmod 4) then PY else bif decide (kd = 5) then bif decide ((i : Int) = (j : Int) + 1) then PY else 6 ≠ (0 : Int) ∧ bif decide (nu.fmod 6 = 0) then PY else PN else PN else bif decide (kd = 5) then bif decide ((i : Int) = (j : Int) + 1) then PY else 6 ≠ (0 : Int) ∧ bif decide (nu.fmod 6 = 0) then PY else PN else PN := Ji (fun _ => ⟨by decide, Ji (fun _ => Y) fun _ => R5⟩) fun _ => R5
  generalize (bif decide (kd = 4) then 4 ≠ (0 : Int) ∧ bif decide (0 < nu.fmod 4) then PY else bif decide (kd = 5) then bif decide ((i : Int) = (j : Int) + 1) then PY else 6 ≠ (0 : Int) ∧ bif decide (nu.fmod 6 = 0) then PY else PN else PN else bif decide (kd = 5) then bif decide ((i : Int) = (j : Int) + 1) then PY else 6 ≠ (0 : Int) ∧ bif decide (nu.fmod 6 = 0) then PY else PN else PN) = P4 at *
  refine Ji (fun h4 => ?_) fun _ => R4
  rw [Xw h0 (by lia)]
  have kk : kd = 0 ∨ kd = 1 ∨ kd = 2 ∨ kd = 3 := by lia
  rcases kk with rfl | rfl | rfl | rfl <;> refine ⟨?_, Ji (fun _ => Y) fun _ => R4⟩
  · exact (by decide : (2 : Int) ≠ 0)
  · exact (by decide : (3 : Int) ≠ 0)
  · exact (by decide : (5 : Int) ≠ 0)
  · exact (by decide : (4 : Int) ≠ 0)
section
variable {n : Nat} {hm : Bool} {K : V → Prop} {X : Nat → Prop}
theorem JS (m : Nat) : ((rangeL m).map fun i => V.d (.int i)).length = m := by rw [List.length_map, UZ]; rfl
theorem QY {m i : Nat} (h : i < ((rangeL m).map fun i => V.d (.int i)).length) : ((rangeL m).map fun i => V.d (.int i))[i] = .d (.int i) := by
  rw [List.getElem_map]; unfold rangeL; rw [List.getElem_map, List.getElem_range]
theorem rngOk {m : Nat} (h : m ≤ 10) : -(lim : Int) < m ∧ (m : Int) < lim := ⟨QA (by lia), JR (by lia)⟩
theorem rngLen {m : Nat} (h : m ≤ 10) : ((rangeL m).map fun i => V.d (.int i)).length < lim := by rw [JS]; exact Yv (Nat.lt_of_le_of_lt h (by decide))
theorem ZEf (sc : List Int) (hs : sc.length < 64) (hb : ∀ x ∈ sc, Sml x) (fi mo : Nat) (hfi : fi < 100) (hm0 : 0 < mo) (hm1 : mo ≤ 10)
    (q : ∀ (sz : Nat) (ts : List (Nat × Nat)), 0 < sz → sz ≤ mo → WebOk sz ts → K (.d (.tuple [.int sz, .list (ofPairs ts)]))) : wpCall T06 (n + 2) false 17 [.d (.list (ofInts sc)), .d (.int fi), .d (.int mo)] K X := by
  refine JC (fn := f__law_web) rfl rfl (by decide) ?_
  dsimp only [f__law_web, b__law_web, wpSs, wpS, wpE, wpL, slotW, ownS, Rho.putL, frz, bindF, setD, setAll, bindT, F1.W, F2.W, F1.quiet, seqV, numW, isNon, Yx, Yu, Zu, Zt, YN, Zq, Zo, Zp, Za, ZM, YA, ZT, ZR, ZS, YM, Zl, ZY, ZX, ZH, ZG, YL, Zc, Zw, ZO, Yw, YB, Ys, ZP, ZQ, ZI, ZJ, Zd, Ze, Zm, Yt, Zn, Zk, ZK, ZZ, YE, YF, Zj, Zi, YG, YD, ZW, Zh, Zg, JA, YC, ZU, ZF, ZD, ZE, ZC, ZA, ZB, ZV, excIs, JN, YH, YI, Zf, Zr, YJ, YK, YZ, Ya, YQ, YR, YV, YW, Ym, Yn, Yb, Yc, Yi, Yj, YX, YY, Yd, Zy, Zz, JJ, JL, JM, JK, YU, Yo, Ye, Yf, YS, YT, YO, YP, Yy, Yz, Yk, Yl, Yp, Yq, JP, JO, Yh, Yg, Nat.reduceSub, Nat.reduceAdd, Zv, ZN, JB, Zb, Zs]
  refine QF sc fi hs (by lia) (by lia) ?_
  have hch := VB hb (fi : Int)
  generalize cellAt sc (fi : Int) = ch at *
  have z0 := fmod_nonneg' (a := ch) (b := mo) (by lia)
  have z1 := fmod_lt' (a := ch) (b := mo) (by lia)
  obtain ⟨sz, hsz⟩ : ∃ sz : Nat, 1 + ch.fmod mo = sz := ⟨(1 + ch.fmod mo).toNat, by lia⟩
  have s0 : 0 < sz := by lia
  have s1 : sz ≤ mo := by lia
  have s10 := Nat.le_trans s1 hm1
  dsimp only [wpSs, wpS, wpE, wpL, slotW, ownS, Rho.putL, frz, bindF, setD, setAll, bindT, F1.W, F2.W, F1.quiet, seqV, numW, isNon, Yx, Yu, Zu, Zt, YN, Zq, Zo, Zp, Za, ZM, YA, ZT, ZR, ZS, YM, Zl, ZY, ZX, ZH, ZG, YL, Zc, Zw, ZO, Yw, YB, Ys, ZP, ZQ, ZI, ZJ, Zd, Ze, Zm, Yt, Zn, Zk, ZK, ZZ, YE, YF, Zj, Zi, YG, YD, ZW, Zh, Zg, JA, YC, ZU, ZF, ZD, ZE, ZC, ZA, ZB, ZV, excIs, JN, YH, YI, Zf, Zr, YJ, YK, YZ, Ya, YQ, YR, YV, YW, Ym, Yn, Yb, Yc, Yi, Yj, YX, YY, Yd, Zy, Zz, JJ, JL, JM, JK, YU, Yo, Ye, Yf, YS, YT, YO, YP, Yy, Yz, Yk, Yl, Yp, Yq, JP, JO, Yh, Yg, Nat.reduceSub, Nat.reduceAdd, Zv, ZN, JB, Zb, Zs]
  rw [hsz]
  refine ⟨by lia, rngOk s10, rngLen s10, ?_⟩
  refine Jz _ (fun i ρ => ∃ ts a6 a7 a8 a9, ρ = [some (V.d (PyData.list (ofInts sc))), some (V.d (PyData.int fi)), some (V.d (PyData.int mo)), some (V.d (PyData.int ch)), some (V.d (PyData.int sz)), some (V.own (PyData.list (ofPairs ts))), a6, a7, a8, a9, none] ∧ List.Sublist ts (pairsTo i)) ?_ ?_ _ ⟨[], none, none, none, none, rfl, List.nil_sublist _⟩
  · rintro ρ ⟨ts, a6, a7, a8, a9, rfl, sub⟩
    rw [JS] at sub
    have len : ts.length ≤ 100 := Nat.le_trans sub.length_le (Nat.le_trans (QC sz) (Nat.mul_le_mul s10 s10))
    have l1 : (ofPairs ts).length < lim := by rw [Yr]; exact Yv (Nat.lt_of_le_of_lt len (by decide))
    have z0 := fmod_nonneg' (a := ch.fdiv 60) (b := 1 + (ts.length : Int)) (by lia)
    have z1 := fmod_lt' (a := ch.fdiv 60) (b := 1 + (ts.length : Int)) (by lia)
    dsimp only [b__law_web_3, wpSs, wpS, wpE, wpL, slotW, ownS, Rho.putL, frz, bindF, setD, setAll, bindT, F1.W, F2.W, F1.quiet, seqV, numW, isNon, Yx, Yu, Zu, Zt, YN, Zq, Zo, Zp, Za, ZM, YA, ZT, ZR, ZS, YM, Zl, ZY, ZX, ZH, ZG, YL, Zc, Zw, ZO, Yw, YB, Ys, ZP, ZQ, ZI, ZJ, Zd, Ze, Zm, Yt, Zn, Zk, ZK, ZZ, YE, YF, Zj, Zi, YG, YD, ZW, Zh, Zg, JA, YC, ZU, ZF, ZD, ZE, ZC, ZA, ZB, ZV, excIs, JN, YH, YI, Zf, Zr, YJ, YK, YZ, Ya, YQ, YR, YV, YW, Ym, Yn, Yb, Yc, Yi, Yj, YX, YY, Yd, Zy, Zz, JJ, JL, JM, JK, YU, Yo, Ye, Yf, YS, YT, YO, YP, Yy, Yz, Yk, Yl, Yp, Yq, JP, JO, Yh, Yg, Nat.reduceSub, Nat.reduceAdd, Zv, ZN, JB, Zb, Zs]
    rw [Yr]
    refine ⟨⟨by decide, by decide⟩, Yv (by lia), by lia, ?_⟩
    generalize (ch.fdiv 60).fmod (1 + (ts.length : Int)) = tu at *
    have tl : tu < (lim : Int) := JR (by lia)
    show got (lsV (.brw (.list (ofPairs ts)))) _
    rw [Qz (Qs ts)]
    refine ⟨⟨z0, tl, l1⟩, ?_⟩
    show got (lsV (.brw (.list (ofPairs ts)))) _
    rw [Qz (Qs ts)]
    refine ⟨⟨z0, tl, l1⟩, ?_⟩
    rw [QS, QT]
    refine ⟨by rw [Yr, Yr, List.length_drop, List.length_take]; exact Yv (by lia), ?_⟩
    rw [JF]
    exact q sz _ s0 s1 ⟨ts, tu.toNat, sub, rfl⟩
  · rintro i hi ρ k ⟨ts, a6, a7, a8, a9, rfl, sub⟩ cont _
    have hi' : i < sz := by rw [JS] at hi; exact hi
    have i10 := Nat.le_of_lt (Nat.lt_of_lt_of_le hi' s10)
    rw [QY]
    dsimp only [b__law_web_2, wpSs, wpS, wpE, wpL, slotW, ownS, Rho.putL, frz, bindF, setD, setAll, bindT, F1.W, F2.W, F1.quiet, seqV, numW, isNon, Yx, Yu, Zu, Zt, YN, Zq, Zo, Zp, Za, ZM, YA, ZT, ZR, ZS, YM, Zl, ZY, ZX, ZH, ZG, YL, Zc, Zw, ZO, Yw, YB, Ys, ZP, ZQ, ZI, ZJ, Zd, Ze, Zm, Yt, Zn, Zk, ZK, ZZ, YE, YF, Zj, Zi, YG, YD, ZW, Zh, Zg, JA, YC, ZU, ZF, ZD, ZE, ZC, ZA, ZB, ZV, excIs, JN, YH, YI, Zf, Zr, YJ, YK, YZ, Ya, YQ, YR, YV, YW, Ym, Yn, Yb, Yc, Yi, Yj, YX, YY, Yd, Zy, Zz, JJ, JL, JM, JK, YU, Yo, Ye, Yf, YS, YT, YO, YP, Yy, Yz, Yk, Yl, Yp, Yq, JP, JO, Yh, Yg, Nat.reduceSub, Nat.reduceAdd, Zv, ZN, JB, Zb, Zs]
    refine ⟨rngOk i10, rngLen i10, ?_⟩
    refine Jz _ (fun j ρ => ∃ ts a7 a8 a9, ρ = [some (V.d (PyData.list (ofInts sc))), some (V.d (PyData.int fi)), some (V.d (PyData.int mo)), some (V.d (PyData.int ch)), some (V.d (PyData.int sz)), some (V.own (PyData.list (ofPairs ts))), some (V.d (PyData.int i)), a7, a8, a9, none] ∧ List.Sublist ts (pairsTo i ++ (List.range j).map fun k => (k, i))) ?_ ?_ _ ⟨ts, a7, a8, a9, rfl, by rw [show List.range 0 = [] from rfl, List.map_nil, List.append_nil]; exact sub⟩
    · rintro ρ ⟨ts, a7, a8, a9, rfl, sub⟩
      refine cont _ ⟨ts, _, a7, a8, a9, rfl, ?_⟩
      rw [JS] at sub
      rw [QU]; exact sub
    · rintro j hj ρ k2 ⟨ts, a7, a8, a9, rfl, sub⟩ cont2 _
      have hj' : j < i := by rw [JS] at hj; exact hj
      have j10 := Nat.le_of_lt (Nat.lt_of_lt_of_le hj' i10)
      rw [QY]
      have no := fun a8 a9 => cont2 _ ⟨ts, some (V.d (.int j)), a8, a9, rfl, sub.trans (List.Sublist.append (List.Sublist.refl _) (by rw [List.range_succ, List.map_append]; exact List.sublist_append_left ..))⟩
      have yes := fun a8 a9 => cont2 _ ⟨ts ++ [(j, i)], some (V.d (.int j)), a8, a9, rfl, by rw [List.range_succ, List.map_append, ← List.append_assoc]; exact List.Sublist.append sub (List.Sublist.refl _)⟩
      have len : ts.length ≤ 200 := by
        have h1 := sub.length_le
        rw [List.length_append, List.length_map, List.length_range] at h1
        exact Nat.le_trans h1 (Nat.le_trans (Nat.add_le_add (Nat.le_trans (QC i) (Nat.mul_le_mul i10 i10)) j10) (by decide))
      have l1 : (ofPairs ts).length < lim := by rw [Yr]; exact Yv (Nat.lt_of_le_of_lt len (by decide))
      rw [← JF] at yes
      have y0 := fmod_nonneg' (a := (j : Int) + 3 * i) (b := 6) (by lia)
      have y1 := fmod_lt' (a := (j : Int) + 3 * i) (b := 6) (by lia)
      dsimp only [b__law_web_1, wpSs, wpS, wpE, wpL, slotW, ownS, Rho.putL, frz, bindF, setD, setAll, bindT, F1.W, F2.W, F1.quiet, seqV, numW, isNon, Yx, Yu, Zu, Zt, YN, Zq, Zo, Zp, Za, ZM, YA, ZT, ZR, ZS, YM, Zl, ZY, ZX, ZH, ZG, YL, Zc, Zw, ZO, Yw, YB, Ys, ZP, ZQ, ZI, ZJ, Zd, Ze, Zm, Yt, Zn, Zk, ZK, ZZ, YE, YF, Zj, Zi, YG, YD, ZW, Zh, Zg, JA, YC, ZU, ZF, ZD, ZE, ZC, ZA, ZB, ZV, excIs, JN, YH, YI, Zf, Zr, YJ, YK, YZ, Ya, YQ, YR, YV, YW, Ym, Yn, Yb, Yc, Yi, Yj, YX, YY, Yd, Zy, Zz, JJ, JL, JM, JK, YU, Yo, Ye, Yf, YS, YT, YO, YP, Yy, Yz, Yk, Yl, Yp, Yq, JP, JO, Yh, Yg, Nat.reduceSub, Nat.reduceAdd, Zv, ZN, JB, Zb, Zs]
      refine ⟨IntMulOk.of_left (by decide), by decide, ?_⟩
      refine QF sc _ hs (by lia) (by lia) ?_
      refine ⟨IntMulOk.of_left (by decide), ⟨by decide, by decide⟩, ?_⟩
      refine Xt _ _ (HV (VB hb _) hch (Nat.lt_of_le_of_lt j10 (by decide)) (Nat.lt_of_le_of_lt i10 (by decide))) ?_
      generalize mixed _ _ = nu
      have x0 := fmod_nonneg' (a := ch.fdiv 10) (b := 6) (by lia)
      have x1 := fmod_lt' (a := ch.fdiv 10) (b := 6) (by lia)
      dsimp only [wpSs, wpS, wpE, wpL, slotW, ownS, Rho.putL, frz, bindF, setD, setAll, bindT, F1.W, F2.W, F1.quiet, seqV, numW, isNon, Yx, Yu, Zu, Zt, YN, Zq, Zo, Zp, Za, ZM, YA, ZT, ZR, ZS, YM, Zl, ZY, ZX, ZH, ZG, YL, Zc, Zw, ZO, Yw, YB, Ys, ZP, ZQ, ZI, ZJ, Zd, Ze, Zm, Yt, Zn, Zk, ZK, ZZ, YE, YF, Zj, Zi, YG, YD, ZW, Zh, Zg, JA, YC, ZU, ZF, ZD, ZE, ZC, ZA, ZB, ZV, excIs, JN, YH, YI, Zf, Zr, YJ, YK, YZ, Ya, YQ, YR, YV, YW, Ym, Yn, Yb, Yc, Yi, Yj, YX, YY, Yd, Zy, Zz, JJ, JL, JM, JK, YU, Yo, Ye, Yf, YS, YT, YO, YP, Yy, Yz, Yk, Yl, Yp, Yq, JP, JO, Yh, Yg, Nat.reduceSub, Nat.reduceAdd, Zv, ZN, JB, Zb, Zs]
      refine ⟨⟨by decide, by decide⟩, by decide, ?_⟩
      generalize (ch.fdiv 10).fmod 6 = kd at *
      exact pick x0 x1 ⟨l1, yes _ _⟩ (no _ _)

theorem ZHb (p : Int) : shp (.int p) := by unfold shp SeqAt.shaped; rfl
theorem ZDi (a b : Int) : shp (.tuple [.int a, .int b]) := by unfold shp SeqAt.shaped; simp [PyData.canLay0, PyData.canLayAll0, PyData.depth, PyData.depthAll]
theorem ZFq (p a b : Int) : ([PyData.int a, PyData.int b].any fun z => PyData.eqv z (.int p)) = (decide (a = p) || decide (b = p)) := by
  simp [PyData.eqv]; rfl
noncomputable def ctL (sz : Nat) (ts : List (Nat × Nat)) : List Int := (List.range sz).map fun p => (cnt ts p : Int)
noncomputable def inP (p : Nat) : V → Option PyData
  | .d (.tuple [.int a, .int b]) => cond (decide (a = p) || decide (b = p)) (some (.int 1)) none
  | _ => none
theorem HC (p : Nat) (ts : List (Nat × Nat)) : (List.filterMap (inP p) ((ofPairs ts).map V.d)).length = cnt ts p := by
  induction ts with
  | nil => rfl
  | cons t ts ih =>
    have e : (ofPairs (t :: ts)).map V.d = V.d (.tuple [.int t.1, .int t.2]) :: (ofPairs ts).map V.d := rfl
    have i1 : ((t.1 : Int) = p) ↔ t.1 = p := Int.natCast_inj
    have i2 : ((t.2 : Int) = p) ↔ t.2 = p := Int.natCast_inj
    have ei : inP p (V.d (.tuple [.int t.1, .int t.2])) = cond (decide (t.1 = p) || decide (t.2 = p)) (some (.int 1)) none := by
      show cond (decide ((t.1 : Int) = p) || decide ((t.2 : Int) = p)) _ _ = _
      rw [decide_eq_decide.mpr i1, decide_eq_decide.mpr i2]
    unfold cnt at ih ⊢
    rw [e, List.filterMap_cons, ei, List.countP_cons]
    cases decide (t.1 = p) || decide (t.2 = p) with
    | true => exact congrArg (· + 1) ih
    | false => exact ih
theorem Qn (sz : Nat) (hz : sz ≤ 10) (ts : List (Nat × Nat)) (hl : ts.length < 1000) (q : K (.own (.list (ofInts (ctL sz ts))))) : wpCall T06 (n + 1) false 19 [.d (.int sz), .d (.list (ofPairs ts))] K X := by
  have l1 : (ofPairs ts).length < lim := by rw [Yr]; exact Yv hl
  refine JC (fn := f__law_counts) rfl rfl (by decide) ?_
  dsimp only [f__law_counts, b__law_counts, wpSs, wpS, wpE, wpL, slotW, ownS, Rho.putL, frz, bindF, setD, setAll, bindT, F1.W, F2.W, F1.quiet, seqV, numW, isNon, Yx, Yu, Zu, Zt, YN, Zq, Zo, Zp, Za, ZM, YA, ZT, ZR, ZS, YM, Zl, ZY, ZX, ZH, ZG, YL, Zc, Zw, ZO, Yw, YB, Ys, ZP, ZQ, ZI, ZJ, Zd, Ze, Zm, Yt, Zn, Zk, ZK, ZZ, YE, YF, Zj, Zi, YG, YD, ZW, Zh, Zg, JA, YC, ZU, ZF, ZD, ZE, ZC, ZA, ZB, ZV, excIs, JN, YH, YI, Zf, Zr, YJ, YK, YZ, Ya, YQ, YR, YV, YW, Ym, Yn, Yb, Yc, Yi, Yj, YX, YY, Yd, Zy, Zz, JJ, JL, JM, JK, YU, Yo, Ye, Yf, YS, YT, YO, YP, Yy, Yz, Yk, Yl, Yp, Yq, JP, JO, Yh, Yg, Nat.reduceSub, Nat.reduceAdd, Zv, ZN, JB, Zb, Zs]
  refine ⟨⟨QA (by lia), JR (by lia)⟩, by rw [JS]; exact Yv (by lia), ?_⟩
  have e : List.filterMap (fun v => match v with | V.d (PyData.int p) => some (PyData.int (cnt ts p.toNat)) | _ => none) (List.map (fun i => V.d (PyData.int i)) (rangeL (sz : Int))) = ofInts (ctL sz ts) := by
    unfold ofInts ctL
    rw [WR, List.map_map, List.filterMap_map, List.map_map]
    exact List.filterMap_eq_map (f := fun p : Nat => PyData.int (cnt ts p)) ▸ rfl
  refine Jy (fun v => match v with | .d (.int p) => some (.int (cnt ts p.toNat)) | _ => none) _ _ (fun x hx k hk => ?_) ?_ ?_
  · obtain ⟨p, hp, rfl⟩ := List.mem_map.mp hx
    obtain ⟨p, hp, rfl⟩ := List.mem_map.mp hp
    replace hk : k (some (.int (cnt ts p))) := hk
    dsimp only [wpSs, wpS, wpE, wpL, slotW, ownS, Rho.putL, frz, bindF, setD, setAll, bindT, F1.W, F2.W, F1.quiet, seqV, numW, isNon, Yx, Yu, Zu, Zt, YN, Zq, Zo, Zp, Za, ZM, YA, ZT, ZR, ZS, YM, Zl, ZY, ZX, ZH, ZG, YL, Zc, Zw, ZO, Yw, YB, Ys, ZP, ZQ, ZI, ZJ, Zd, Ze, Zm, Yt, Zn, Zk, ZK, ZZ, YE, YF, Zj, Zi, YG, YD, ZW, Zh, Zg, JA, YC, ZU, ZF, ZD, ZE, ZC, ZA, ZB, ZV, excIs, JN, YH, YI, Zf, Zr, YJ, YK, YZ, Ya, YQ, YR, YV, YW, Ym, Yn, Yb, Yc, Yi, Yj, YX, YY, Yd, Zy, Zz, JJ, JL, JM, JK, YU, Yo, Ye, Yf, YS, YT, YO, YP, Yy, Yz, Yk, Yl, Yp, Yq, JP, JO, Yh, Yg, Nat.reduceSub, Nat.reduceAdd, Zv, ZN, JB, Zb, Zs]
    refine ⟨by rw [List.length_map]; exact l1, ?_⟩
    refine Jy (inP p) _ _ (fun x hx k hk => ?_) ?_ ?_
    · obtain ⟨t, ht, rfl⟩ := List.mem_map.mp hx
      obtain ⟨t, ht, rfl⟩ := List.mem_map.mp ht
      refine ⟨ZHb p, ZDi t.1 t.2, ?_⟩
      rw [ZFq]
      replace hk : k (cond (decide ((t.1 : Int) = p) || decide ((t.2 : Int) = p)) (some (.int 1)) none) := hk
      revert hk
      cases decide ((t.1 : Int) = p) || decide ((t.2 : Int) = p) <;> exact id
    · rw [List.nil_append]
      refine Nat.lt_of_le_of_lt (List.length_filterMap_le ..) ?_
      rw [List.length_map]; exact l1
    · rw [List.nil_append]
      refine ⟨by rw [HC]; exact Yv (Nat.lt_of_le_of_lt (List.countP_le_length) hl), ?_⟩
      rw [HC]
      exact hk
  · rw [List.nil_append, e, JD]; unfold ctL; rw [List.length_map, List.length_range]; exact Yv (by lia)
  · rw [List.nil_append, e]; exact q
noncomputable def bump1 (cs : List Int) (p : Nat) : List Int := cs.set p (cs.getD p 0 + 1)
noncomputable def bump (cs : List Int) (t : Nat × Nat) : List Int := bump1 (bump1 cs t.1) t.2
theorem Jr (cs : List Int) (p : Nat) : (bump1 cs p).length = cs.length := List.length_set ..
theorem ZFn {cs : List Int} {p : Nat} (h : p < cs.length) : cs[p]? = some (cs.getD p 0) := by rw [List.getD_eq_getElem?_getD, List.getElem?_eq_getElem h]; rfl
theorem Xc {cs : List Int} {p : Nat} (h : p < cs.length) (h2 : p < 1000) {K : V → Prop} (k : K (.d (.int (cs.getD p 0)))) : got (idxV (.brw (.list (ofInts cs))) p) K := by
  rw [GE (Int.natCast_nonneg p) (by lia), Int.toNat_natCast, getElem?_ofInts, ZFn h]; exact k
theorem ZBg {Ko : KS} {l s : Option V} {ts : List (Nat × Nat)} : ∀ {cs : List Int} {s3 s4 : Option V}, cs.length < 1000 → (∀ t ∈ ts, t.1 < cs.length ∧ t.2 < cs.length) → (∀ s3 s4, Ko .nxt [s, l, some (.own (.list (ofInts (ts.foldl bump cs)))), s3, s4]) →
    forW (fun x ρ' k => bindF (.many [3, 4]) x ρ' fun ρ'' => wpSs (wpCall T06 n) hm b_counts_by_1 ρ'' k (fun c _ => X c)) Ko ((ofPairs ts).map .d) [s, l, some (.own (.list (ofInts cs))), s3, s4] := by
  induction ts with
  | nil => exact fun _ _ h => h _ _
  | cons t ts ih =>
    intro cs s3 s4 hl ht h
    obtain ⟨a1, a2⟩ := ht t (.head _)
    have step : ∀ {cs : List Int} {p : Nat}, (ofInts cs).set (p : Int).toNat (.int (cs.getD p 0 + 1)) = ofInts (bump1 cs p) := fun {cs p} => by rw [Int.toNat_natCast, XH]; rfl
    dsimp only [forW, ofPairs, b_counts_by_1, wpSs, wpS, wpE, wpL, slotW, ownS, Rho.putL, frz, bindF, setD, setAll, bindT, F1.W, F2.W, F1.quiet, seqV, numW, isNon, Yx, Yu, Zu, Zt, YN, Zq, Zo, Zp, Za, ZM, YA, ZT, ZR, ZS, YM, Zl, ZY, ZX, ZH, ZG, YL, Zc, Zw, ZO, Yw, YB, Ys, ZP, ZQ, ZI, ZJ, Zd, Ze, Zm, Yt, Zn, Zk, ZK, ZZ, YE, YF, Zj, Zi, YG, YD, ZW, Zh, Zg, JA, YC, ZU, ZF, ZD, ZE, ZC, ZA, ZB, ZV, excIs, JN, YH, YI, Zf, Zr, YJ, YK, YZ, Ya, YQ, YR, YV, YW, Ym, Yn, Yb, Yc, Yi, Yj, YX, YY, Yd, Zy, Zz, JJ, JL, JM, JK, YU, Yo, Ye, Yf, YS, YT, YO, YP, Yy, Yz, Yk, Yl, Yp, Yq, JP, JO, Yh, Yg, Nat.reduceSub, Nat.reduceAdd, Zv, ZN, JB, Zb, Zs]
    refine Xc a1 (by lia) ⟨⟨Int.natCast_nonneg _, by rw [JD]; lia, JR (by lia)⟩, ?_⟩
    rw [step]
    refine Xc (by rw [Jr]; exact a2) (by lia) ⟨⟨Int.natCast_nonneg _, by rw [JD, Jr]; lia, JR (by lia)⟩, ?_⟩
    rw [step]
    have e : (bump1 (bump1 cs t.1) t.2).length = cs.length := by rw [Jr, Jr]
    exact ih (cs := bump cs t) (by rw [show (bump cs t).length = cs.length from e]; exact hl) (fun t ht' => by rw [show (bump cs _).length = cs.length from e]; exact ht t (.tail _ ht')) h
theorem Vd {cs : List Int} {p q : Nat} (h : p < cs.length) : (bump1 cs p).getD q 0 = cs.getD q 0 + (if p = q then 1 else 0) := by
  unfold bump1
  rw [List.getD_eq_getElem?_getD, List.getElem?_set]
  by_cases e : p = q
  · subst e; rw [if_pos rfl, if_pos h, if_pos rfl]; rfl
  · rw [if_neg e, if_neg e, List.getD_eq_getElem?_getD, Int.add_zero]
theorem bumps {sz : Nat} {ts : List (Nat × Nat)} : ∀ {cs : List Int}, cs.length = sz → (∀ t ∈ ts, t.1 < t.2 ∧ t.2 < sz) → (ts.foldl bump cs).length = sz ∧ ∀ p, (ts.foldl bump cs).getD p 0 = cs.getD p 0 + (cnt ts p : Int) := by
  induction ts with
  | nil => exact fun h _ => ⟨h, fun p => (Int.add_zero _).symm⟩
  | cons t ts ih =>
    intro cs hl ht
    obtain ⟨a1, a2⟩ := ht t (.head _)
    obtain ⟨h1, h2⟩ := ih (cs := bump cs t) (by unfold bump; rw [Jr, Jr]; exact hl) fun t ht' => ht t (.tail _ ht')
    refine ⟨h1, fun p => (h2 p).trans ?_⟩
    unfold bump cnt
    rw [Vd (by rw [Jr]; lia), Vd (by lia), List.countP_cons]
    by_cases c1 : t.1 = p <;> by_cases c2 : t.2 = p <;> simp only [c1, c2, decide_true, decide_false, Bool.or_true, Bool.or_false, if_true, if_false, Bool.false_eq_true] <;> lia
theorem ZBe {sz : Nat} {ts : List (Nat × Nat)} (w : Web sz ts) : ts.foldl bump (List.replicate sz 0) = ctL sz ts := by
  obtain ⟨h1, h2⟩ := bumps (cs := List.replicate sz (0 : Int)) List.length_replicate w.2
  refine List.ext_getElem (by rw [h1]; unfold ctL; rw [List.length_map, List.length_range]) fun p p1 p2 => ?_
  have e := h2 p
  rw [List.getD_eq_getElem?_getD, List.getElem?_eq_getElem p1, List.getD_eq_getElem?_getD, List.getElem?_replicate, if_pos (h1 ▸ p1)] at e
  have e3 : (ctL sz ts)[p]'p2 = (cnt ts p : Int) := by simp only [ctL, List.getElem_map, List.getElem_range]
  rw [e3]
  exact e.trans (Int.zero_add _)
theorem Jn (sz : Nat) (hz : sz ≤ 10) (ts : List (Nat × Nat)) (hl : ts.length < 1000) (w : Web sz ts) (q : K (.own (.list (ofInts (ctL sz ts))))) : wpCall T06 (n + 1) hm 6 [.d (.int sz), .d (.list (ofPairs ts))] K X := by
  refine JC (fn := f_counts_by) rfl rfl (by decide) ?_
  dsimp only [f_counts_by, b_counts_by, wpSs, wpS, wpE, wpL, slotW, ownS, Rho.putL, frz, bindF, setD, setAll, bindT, F1.W, F2.W, F1.quiet, seqV, numW, isNon, Yx, Yu, Zu, Zt, YN, Zq, Zo, Zp, Za, ZM, YA, ZT, ZR, ZS, YM, Zl, ZY, ZX, ZH, ZG, YL, Zc, Zw, ZO, Yw, YB, Ys, ZP, ZQ, ZI, ZJ, Zd, Ze, Zm, Yt, Zn, Zk, ZK, ZZ, YE, YF, Zj, Zi, YG, YD, ZW, Zh, Zg, JA, YC, ZU, ZF, ZD, ZE, ZC, ZA, ZB, ZV, excIs, JN, YH, YI, Zf, Zr, YJ, YK, YZ, Ya, YQ, YR, YV, YW, Ym, Yn, Yb, Yc, Yi, Yj, YX, YY, Yd, Zy, Zz, JJ, JL, JM, JK, YU, Yo, Ye, Yf, YS, YT, YO, YP, Yy, Yz, Yk, Yl, Yp, Yq, JP, JO, Yh, Yg, Nat.reduceSub, Nat.reduceAdd, Zv, ZN, JB, Zb, Zs]
  refine ⟨⟨Int.natCast_nonneg _, JR (by lia), by rw [Int.toNat_natCast]; exact Yv (by simp only [List.length_cons, List.length_nil]; lia)⟩, ?_⟩
  have e : (List.replicate (sz : Int).toNat [PyData.int 0]).flatten = ofInts (List.replicate sz 0) := by
    rw [Int.toNat_natCast, List.flatten_replicate_singleton]; unfold ofInts; rw [List.map_replicate]
  rw [e]
  refine ⟨by rw [List.length_map, Yr]; exact Yv hl, ZBg (by rw [List.length_replicate]; lia) (fun t ht => by rw [List.length_replicate]; have := w.2 t ht; lia) fun s3 s4 => ?_⟩
  rw [ZBe w]
  exact q
end
end TC

namespace TC
open PySem
noncomputable def Sh (d : Nat) (x : PyData) : Prop := x.canLay0 = true ∧ x.depth ≤ d
theorem Sh.int (d : Nat) (i : Int) : Sh d (.int i) := ⟨by simp only [PyData.canLay0], by simp only [PyData.depth]; exact Nat.zero_le _⟩
theorem Sh.str (d : Nat) {s : Str} (h : PyData.strOk s = true) : Sh d (.str s) := ⟨by simp only [PyData.canLay0]; exact h, by simp only [PyData.depth]; exact Nat.zero_le _⟩
theorem Sh.all {d : Nat} {xs : List PyData} (h : ∀ x ∈ xs, Sh d x) : PyData.canLayAll0 xs = true ∧ PyData.depthAll xs ≤ d := by
  induction xs with
  | nil => exact ⟨by simp only [PyData.canLayAll0], by simp only [PyData.depthAll]; exact Nat.zero_le _⟩
  | cons x xs ih =>
    obtain ⟨h1, h2⟩ := ih fun x hx => h x (.tail _ hx)
    obtain ⟨h3, h4⟩ := h x (.head _)
    exact ⟨by simp only [PyData.canLayAll0, h1, h3, Bool.and_self], by simp only [PyData.depthAll]; exact Nat.max_le.mpr ⟨h4, h2⟩⟩
theorem Sh.list {d : Nat} {xs : List PyData} (h : ∀ x ∈ xs, Sh d x) : Sh (d + 1) (.list xs) := ⟨by simp only [PyData.canLay0]; exact (Sh.all h).1, by simp only [PyData.depth]; exact Nat.succ_le_succ (Sh.all h).2⟩
theorem Sh.tuple {d : Nat} {xs : List PyData} (h : ∀ x ∈ xs, Sh d x) : Sh (d + 1) (.tuple xs) := ⟨by simp only [PyData.canLay0]; exact (Sh.all h).1, by simp only [PyData.depth]; exact Nat.succ_le_succ (Sh.all h).2⟩
theorem Sh.shp {d : Nat} {x : PyData} (h : Sh d x) (le : d ≤ 64 := by decide) : shp x := by
  unfold TC.shp SeqAt.shaped; rw [h.1, decide_eq_true (Nat.le_trans h.2 le)]; rfl
theorem Sh.ints (d : Nat) (l : List Int) : Sh (d + 1) (.list (ofInts l)) := .list fun x hx => by obtain ⟨i, _, rfl⟩ := List.mem_map.mp hx; exact .int d i
theorem Sh.pair (d : Nat) (a b : Int) : Sh (d + 1) (.tuple [.int a, .int b]) := .tuple fun x hx => by rcases List.mem_cons.mp hx with rfl | hx; exact .int d a; rw [List.mem_singleton.mp hx]; exact .int d b
theorem Sh.pairs (d : Nat) (ts : List (Nat × Nat)) : Sh (d + 2) (.list (ofPairs ts)) := .list fun x hx => by obtain ⟨t, _, rfl⟩ := List.mem_map.mp hx; exact .pair d _ _
theorem Sh.nil (d : Nat) : Sh (d + 1) (.list []) := .list nofun
mutual
theorem Uw : ∀ x : PyData, x.canLay0 = true → PyData.eqv x x = true
  | .none, _ => by simp only [PyData.eqv]
  | .bool _, _ => by simp only [PyData.eqv, beq_self_eq_true]
  | .int _, _ => by simp only [PyData.eqv, beq_self_eq_true]
  | .str _, _ => by simp only [PyData.eqv, beq_self_eq_true]
  | .list xs, h => by simp only [PyData.eqv]; simp only [PyData.canLay0] at h; exact Qo xs h
  | .tuple xs, h => by simp only [PyData.eqv]; simp only [PyData.canLay0] at h; exact Qo xs h
  | .dict _, h => by simp only [PyData.canLay0] at h; exact nomatch h
theorem Qo : ∀ xs : List PyData, PyData.canLayAll0 xs = true → PyData.eqvAll xs xs = true
  | [], _ => by simp only [PyData.eqvAll]
  | x :: xs, h => by simp only [PyData.canLayAll0, Bool.and_eq_true] at h; simp only [PyData.eqvAll, Uw x h.1, Qo xs h.2, Bool.and_self]
end
theorem Sh.eq {d : Nat} {x : PyData} (h : Sh d x) : PyData.eqv x x = true := Uw x h.1
theorem ZFf (xs : List PyData) : PyData.eqv (.list xs) (.list []) = xs.isEmpty := by
  cases xs <;> simp only [PyData.eqv, PyData.eqvAll] <;> rfl
theorem WJ {v : V} {xs : List PyData} {K : V → Prop} {d : Nat} (e : rd v = some (.list xs)) (h : Sh d (.list xs)) (le : d ≤ 64) (k : K (.d (.bool (!xs.isEmpty)))) : objW .ne v (.own (.list [])) K := by
  show got (rd v) _
  rw [e]
  refine ⟨h.shp le, (Sh.nil 0).shp, ?_⟩
  rw [ZFf]; exact k
theorem Xd {v w : V} {x : PyData} {K : V → Prop} {d : Nat} (e : rd v = some x) (e' : rd w = some x) (h : Sh d x) (le : d ≤ 64) (k : K (.d (.bool false))) : objW .ne v w K := by
  show got (rd v) _
  rw [e]
  show got (rd w) _
  rw [e']
  refine ⟨h.shp le, h.shp le, ?_⟩
  rw [h.eq]; exact k

noncomputable def zs (l : List Nat) : List Int := l.map fun (k : Nat) => (k : Int)
theorem zs_snoc (l : List Nat) (a : Nat) : ofInts (zs l) ++ [PyData.int a] = ofInts (zs (l ++ [a])) := by unfold zs; rw [List.map_append, ← VL]; rfl
theorem ZAq (l : List Nat) : (zs l).length = l.length := List.length_map ..
end TC

namespace TC
open PySem
section
variable {n : Nat} {hm : Bool} {K : V → Prop} {X : Nat → Prop}
theorem ZAc {m : Nat} {t : Nat × Nat} (h : t.1 < t.2 ∧ t.2 < m) : tieB m (.tuple [.int t.1, .int t.2]) = true := by
  show (decide (0 ≤ (t.1 : Int)) && decide ((t.1 : Int) ≤ m - 1) && (decide (0 ≤ (t.2 : Int)) && decide ((t.2 : Int) ≤ m - 1)) && decide ((t.1 : Int) < t.2)) = true
  simp only [Bool.and_eq_true, decide_eq_true_eq]; lia
theorem ZGm {m : Nat} {ts : Ties} : ∀ {met : List (List Int)}, (∀ t ∈ ts, t.1 < t.2 ∧ t.2 < m) → ts.Nodup → (∀ t ∈ ts, [(t.1 : Int), t.2] ∉ met) → okW m (ofPairs ts) met = true := by
  induction ts with
  | nil => exact fun _ _ _ => rfl
  | cons t ts ih =>
    intro met h1 h2 h3
    have h2 := List.nodup_cons.mp h2
    show (tieB m (.tuple [.int t.1, .int t.2]) && (!met.contains [(t.1 : Int), t.2] && okW m (ofPairs ts) (met ++ [[(t.1 : Int), t.2]]))) = true
    have c : met.contains [(t.1 : Int), t.2] = false := Bool.eq_false_iff.mpr fun q => h3 t (.head _) (List.contains_iff_mem.mp q)
    rw [ZAc (h1 t (.head _)), c, ih (fun t h => h1 t (.tail _ h)) h2.2 fun t' h q => ?_]
    · rfl
    · rcases List.mem_append.mp q with q | q
      · exact h3 t' (.tail _ h) q
      · have e := List.mem_singleton.mp q
        injection e with e1 e2
        injection e2 with e2 _
        have e3 : t' = t := Prod.ext (Int.natCast_inj.mp e1) (Int.natCast_inj.mp e2)
        exact h2.1 (e3 ▸ h)
theorem ZEe {m : Nat} {ts : Ties} (h0 : 0 < m) (hz : m ≤ 10) (w : Web m ts) : webB (.int m) (.list (ofPairs ts)) = true := by
  show (decide (1 ≤ (m : Int)) && decide ((m : Int) ≤ 10) && okW m (ofPairs ts) []) = true
  rw [ZGm w.2 w.1 (fun _ _ => List.not_mem_nil), decide_eq_true (by lia), decide_eq_true (by lia)]; rfl
theorem Xi {ts : Ties} (hl : ts.length < 1000) : ShortL (.list (ofPairs ts)) := by
  refine ⟨by rw [Yr]; exact hl, fun y hy => ?_⟩
  obtain ⟨t, _, rfl⟩ := List.mem_map.mp hy
  exact (by decide : 2 < 1000)
structure GW (m : Nat) (ts : Ties) : Prop where
  pos : 0 < m
  le : m ≤ 10
  web : Web m ts
  len : ts.length ≤ 100
theorem GW.short {m : Nat} {ts : Ties} (g : GW m ts) : ShortL (.list (ofPairs ts)) := Xi (Nat.lt_of_le_of_lt g.len (by decide))
theorem GW.need {m : Nat} {ts : Ties} (g : GW m ts) (k : K (.d .none)) : wpCall T06 (n + 3) false 4 [.d (.int m), .d (.list (ofPairs ts))] K X :=
  Xe _ _ g.short (fun _ => k) fun e => by rw [ZEe g.pos g.le g.web] at e; exact nomatch e
theorem Vq (k : K (.own (.list [.str "web"]))) : wpCall T06 (n + 1) true 23 [.exc 3] K X := by
  refine JC (fn := f__law_kind) rfl rfl (by decide) ?_
  dsimp only [f__law_kind, b__law_kind, compW, wpSs, wpS, wpE, wpL, slotW, ownS, Rho.putL, frz, bindF, setD, setAll, bindT, F1.W, F2.W, F1.quiet, seqV, numW, isNon, Yx, Yu, Zu, Zt, YN, Zq, Zo, Zp, Za, ZM, YA, ZT, ZR, ZS, YM, Zl, ZY, ZX, ZH, ZG, YL, Zc, Zw, ZO, Yw, YB, Ys, ZP, ZQ, ZI, ZJ, Zd, Ze, Zm, Yt, Zn, Zk, ZK, ZZ, YE, YF, Zj, Zi, YG, YD, ZW, Zh, Zg, JA, YC, ZU, ZF, ZD, ZE, ZC, ZA, ZB, ZV, excIs, JN, YH, YI, Zf, Zr, YJ, YK, YZ, Ya, YQ, YR, YV, YW, Ym, Yn, Yb, Yc, Yi, Yj, YX, YY, Yd, Zy, Zz, JJ, JL, JM, JK, YU, Yo, Ye, Yf, YS, YT, YO, YP, Yy, Yz, Yk, Yl, Yp, Yq, JP, JO, Yh, Yg, Nat.reduceSub, Nat.reduceAdd, Zv, ZN, JB, Zb, Zs]
  refine ⟨Yv (by decide), Yv (by decide), Yv (by decide), ?_⟩
  show _ ∧ _
  refine ⟨Yv (by decide), Yv (by decide), XZ (by decide) ?_⟩
  exact ⟨⟨by decide, JR (by decide), Yv (by decide)⟩, k⟩
noncomputable abbrev refused : PyData := .tuple [.str "refused", .list [.str "web"]]
theorem UP (k : K (.own (.list [.str "unlike"]))) : wpCall T06 (n + 1) true 23 [.exc 5] K X := by
  refine JC (fn := f__law_kind) rfl rfl (by decide) ?_
  dsimp only [f__law_kind, b__law_kind, compW, wpSs, wpS, wpE, wpL, slotW, ownS, Rho.putL, frz, bindF, setD, setAll, bindT, F1.W, F2.W, F1.quiet, seqV, numW, isNon, Yx, Yu, Zu, Zt, YN, Zq, Zo, Zp, Za, ZM, YA, ZT, ZR, ZS, YM, Zl, ZY, ZX, ZH, ZG, YL, Zc, Zw, ZO, Yw, YB, Ys, ZP, ZQ, ZI, ZJ, Zd, Ze, Zm, Yt, Zn, Zk, ZK, ZZ, YE, YF, Zj, Zi, YG, YD, ZW, Zh, Zg, JA, YC, ZU, ZF, ZD, ZE, ZC, ZA, ZB, ZV, excIs, JN, YH, YI, Zf, Zr, YJ, YK, YZ, Ya, YQ, YR, YV, YW, Ym, Yn, Yb, Yc, Yi, Yj, YX, YY, Yd, Zy, Zz, JJ, JL, JM, JK, YU, Yo, Ye, Yf, YS, YT, YO, YP, Yy, Yz, Yk, Yl, Yp, Yq, JP, JO, Yh, Yg, Nat.reduceSub, Nat.reduceAdd, Zv, ZN, JB, Zb, Zs]
  refine ⟨Yv (by decide), Yv (by decide), Yv (by decide), ?_⟩
  show _ ∧ _
  refine ⟨Yv (by decide), Yv (by decide), XZ (by decide) ?_⟩
  exact ⟨⟨by decide, JR (by decide), Yv (by decide)⟩, k⟩
end
end TC

namespace TC

noncomputable def wo (ts : Ties) (e : Nat × Nat) : Ties := ts.filter fun t => decide (t ≠ e)
end TC

namespace TC

noncomputable def tie (a b : Nat) : Nat × Nat := (min a b, max a b)
structure Row where
  a : Nat
  b : Nat
  c : Nat
  d : Nat
noncomputable def Row.out (r : Row) (t : Nat × Nat) : Bool := decide (t ≠ tie r.a r.b ∧ t ≠ tie r.c r.d)
noncomputable def exch (ts : Ties) (r : Row) : Ties := ts.filter r.out ++ [tie r.a r.c, tie r.b r.d]
theorem QM {ts : Ties} {r : Row} {t : Nat × Nat} : t ∈ exch ts r ↔ (t ∈ ts ∧ t ≠ tie r.a r.b ∧ t ≠ tie r.c r.d) ∨ t = tie r.a r.c ∨ t = tie r.b r.d := by
  unfold exch
  rw [List.mem_append, List.mem_filter, List.mem_cons, List.mem_singleton]
  unfold Row.out
  rw [decide_eq_true_iff]
structure Fit (m : Nat) (ts : Ties) (r : Row) : Prop where
  lt : r.a < m ∧ r.b < m ∧ r.c < m ∧ r.d < m
  nd : [r.a, r.b, r.c, r.d].Nodup
  in1 : tie r.a r.b ∈ ts
  in2 : tie r.c r.d ∈ ts
  out1 : tie r.a r.c ∉ ts
  out2 : tie r.b r.d ∉ ts
section
variable {m : Nat} {ts us : Ties} {r : Row}
theorem Fit.mem (h : ∀ t, t ∈ us ↔ t ∈ ts) (f : Fit m ts r) : Fit m us r := ⟨f.lt, f.nd, (h _).mpr f.in1, (h _).mpr f.in2, fun q => f.out1 ((h _).mp q), fun q => f.out2 ((h _).mp q)⟩
theorem Fit.ne (f : Fit m ts r) : r.a ≠ r.b ∧ r.a ≠ r.c ∧ r.a ≠ r.d ∧ r.b ≠ r.c ∧ r.b ≠ r.d ∧ r.c ≠ r.d := by
  have := f.nd
  simp only [List.nodup_cons, List.mem_cons, List.not_mem_nil, or_false, not_or, not_false_eq_true, List.nodup_nil, and_true] at this
  exact ⟨this.1.1, this.1.2.1, this.1.2.2, this.2.1.1, this.2.1.2, this.2.2⟩
theorem VU {a b : Nat} (ne : a ≠ b) (ha : a < m) (hb : b < m) : (tie a b).1 < (tie a b).2 ∧ (tie a b).2 < m := by
  unfold tie; dsimp only; lia
theorem QE {a b c d : Nat} (h : tie a b = tie c d) : (a = c ∧ b = d) ∨ (a = d ∧ b = c) := by
  unfold tie at h
  injection h with h1 h2
  rcases Nat.le_total a b with l | l <;> rcases Nat.le_total c d with k | k
  · rw [Nat.min_eq_left l, Nat.min_eq_left k] at h1; rw [Nat.max_eq_right l, Nat.max_eq_right k] at h2; exact .inl ⟨h1, h2⟩
  · rw [Nat.min_eq_left l, Nat.min_eq_right k] at h1; rw [Nat.max_eq_right l, Nat.max_eq_left k] at h2; exact .inr ⟨h1, h2⟩
  · rw [Nat.min_eq_right l, Nat.min_eq_left k] at h1; rw [Nat.max_eq_left l, Nat.max_eq_right k] at h2; exact .inr ⟨h2, h1⟩
  · rw [Nat.min_eq_right l, Nat.min_eq_right k] at h1; rw [Nat.max_eq_left l, Nat.max_eq_left k] at h2; exact .inl ⟨h2, h1⟩
theorem Fit.web (w : Web m ts) (f : Fit m ts r) : Web m (exch ts r) := by
  obtain ⟨n1, n2, n3, n4, n5, n6⟩ := f.ne
  obtain ⟨l1, l2, l3, l4⟩ := f.lt
  refine ⟨List.nodup_append.mpr ⟨w.1.filter _, List.nodup_cons.mpr ⟨fun q => ?_, List.pairwise_singleton _ _⟩, fun x hx y hy e => ?_⟩, fun t ht => ?_⟩
  · rcases QE (List.mem_singleton.mp q) with ⟨q, _⟩ | ⟨q, _⟩
    · exact n1 q
    · exact n3 q
  · have hx := (List.mem_filter.mp hx).1
    rcases List.mem_cons.mp hy with q | q
    · exact f.out1 (q ▸ e ▸ hx)
    · exact f.out2 (List.mem_singleton.mp q ▸ e ▸ hx)
  · rcases QM.mp ht with q | q | q
    · exact w.2 t q.1
    · rw [q]; exact VU n2 l1 l3
    · rw [q]; exact VU n5 l2 l4
theorem filter2 {l : Ties} (nd : l.Nodup) {x y : Nat × Nat} (hx : x ∈ l) (hy : y ∈ l) (ne : x ≠ y) : (l.filter fun t => decide (t ≠ x ∧ t ≠ y)).length + 2 = l.length := by
  induction l with
  | nil => exact nomatch hx
  | cons t l ih =>
    obtain ⟨n1, n2⟩ := List.nodup_cons.mp nd
    have one : ∀ {z : Nat × Nat}, z ∈ l → (∀ t ∈ l, (decide (t ≠ x ∧ t ≠ y)) = decide (t ≠ z)) → (l.filter fun t => decide (t ≠ x ∧ t ≠ y)).length + 1 = l.length := fun {z} hz h => by
      rw [List.filter_congr h]
      clear ih hx hy h nd n1
      induction l with
      | nil => exact nomatch hz
      | cons u l ih =>
        obtain ⟨m1, m2⟩ := List.nodup_cons.mp n2
        rcases List.mem_cons.mp hz with e0 | hz
        · subst e0
          rw [List.filter_cons, if_neg (by simp), List.length_cons, List.filter_eq_self.mpr fun t ht => decide_eq_true (show t ≠ z from fun e => m1 (e ▸ ht))]
        · rw [List.filter_cons, if_pos (decide_eq_true (show u ≠ z from fun e => m1 (e ▸ hz))), List.length_cons, List.length_cons, ih m2 hz]
    rw [List.filter_cons, List.length_cons]
    by_cases c1 : t = x
    · subst c1
      rw [if_neg (by simp), ← one ((List.mem_cons.mp hy).resolve_left fun e => ne e.symm) fun u hu => by
        have : u ≠ t := fun e => n1 (e ▸ hu)
        simp [this]]
    · by_cases c2 : t = y
      · subst c2
        rw [if_neg (by simp), ← one ((List.mem_cons.mp hx).resolve_left fun e => c1 e.symm) fun u hu => by
          have : u ≠ t := fun e => n1 (e ▸ hu)
          simp [this]]
      · rw [if_pos (decide_eq_true ⟨c1, c2⟩), List.length_cons, ← ih n2 ((List.mem_cons.mp hx).resolve_left fun e => c1 e.symm) ((List.mem_cons.mp hy).resolve_left fun e => c2 e.symm)]
theorem Fit.len (w : Web m ts) (f : Fit m ts r) : (exch ts r).length = ts.length := by
  obtain ⟨n1, n2, n3, n4, n5, n6⟩ := f.ne
  unfold exch
  rw [List.length_append]
  exact filter2 w.1 f.in1 f.in2 fun q => (QE q).elim (fun q => n2 q.1) fun q => n3 q.1
end
end TC

namespace TC

theorem QG (a b : Ties) (x : Nat) : cnt (a ++ b) x = cnt a x + cnt b x := List.countP_append ..
theorem Jq {a b : Ties} (h : a.Perm b) (x : Nat) : cnt a x = cnt b x := h.countP_eq _
theorem XW (a b x : Nat) : cnt [tie a b] x = if a = x ∨ b = x then 1 else 0 := by
  unfold cnt tie
  rw [List.countP_cons, List.countP_nil, Nat.zero_add]
  congr 1
  rw [Bool.or_eq_true, decide_eq_true_iff, decide_eq_true_iff]
  refine propext ?_
  rcases Nat.le_total a b with l | l
  · rw [Nat.min_eq_left l, Nat.max_eq_right l]
  · rw [Nat.min_eq_right l, Nat.max_eq_left l]; exact or_comm
theorem Uo (s t : Nat × Nat) (x : Nat) : cnt [s, t] x = cnt [s] x + cnt [t] x := QG [s] [t] x
theorem Fit.cnt {m : Nat} {ts : Ties} {r : Row} (w : Web m ts) (f : Fit m ts r) (x : Nat) : cnt (exch ts r) x = TC.cnt ts x := by
  obtain ⟨n1, n2, n3, n4, n5, n6⟩ := f.ne
  have ne : tie r.a r.b ≠ tie r.c r.d := fun q => (QE q).elim (fun q => n2 q.1) fun q => n3 q.1
  have p : ts.Perm (ts.filter r.out ++ [tie r.a r.b, tie r.c r.d]) := by
    refine (List.perm_ext_iff_of_nodup w.1 (List.nodup_append.mpr ⟨w.1.filter _, List.nodup_cons.mpr ⟨fun q => ne (List.mem_singleton.mp q), List.pairwise_singleton _ _⟩, fun a ha b hb e => ?_⟩)).mpr fun t => ?_
    · have h := (List.mem_filter.mp ha).2
      unfold Row.out at h
      have h := of_decide_eq_true h
      rcases List.mem_cons.mp hb with q | q
      · exact h.1 (e.trans q)
      · exact h.2 (e.trans (List.mem_singleton.mp q))
    · rw [List.mem_append, List.mem_filter, List.mem_cons, List.mem_singleton]
      unfold Row.out
      rw [decide_eq_true_iff]
      constructor
      · intro h
        by_cases c1 : t = tie r.a r.b
        · exact .inr (.inl c1)
        · by_cases c2 : t = tie r.c r.d
          · exact .inr (.inr c2)
          · exact .inl ⟨h, c1, c2⟩
      · rintro (h | rfl | rfl)
        · exact h.1
        · exact f.in1
        · exact f.in2
  rw [Jq p x]
  unfold exch
  rw [QG, QG, Uo, Uo, XW, XW, XW, XW]
  congr 1
  by_cases h1 : r.a = x
  · have h2 : ¬ r.b = x := fun q => n1 (h1.trans q.symm)
    have h3 : ¬ r.c = x := fun q => n2 (h1.trans q.symm)
    have h4 : ¬ r.d = x := fun q => n3 (h1.trans q.symm)
    rw [if_pos (.inl h1), if_neg (not_or.mpr ⟨h2, h4⟩), if_pos (.inl h1), if_neg (not_or.mpr ⟨h3, h4⟩)]
  · by_cases h4 : r.d = x
    · have h2 : ¬ r.b = x := fun q => n5 (q.trans h4.symm)
      have h3 : ¬ r.c = x := fun q => n6 (q.trans h4.symm)
      rw [if_neg (not_or.mpr ⟨h1, h3⟩), if_pos (.inr h4), if_neg (not_or.mpr ⟨h1, h2⟩), if_pos (.inr h4)]
    · by_cases h2 : r.b = x
      · have h3 : ¬ r.c = x := fun q => n4 (h2.trans q.symm)
        rw [if_neg (not_or.mpr ⟨h1, h3⟩), if_pos (.inl h2), if_pos (.inr h2), if_neg (not_or.mpr ⟨h3, h4⟩)]
      · by_cases h3 : r.c = x
        · rw [if_pos (.inr h3), if_neg (not_or.mpr ⟨h2, h4⟩), if_neg (not_or.mpr ⟨h1, h2⟩), if_pos (.inl h3)]
        · rw [if_neg (not_or.mpr ⟨h1, h3⟩), if_neg (not_or.mpr ⟨h2, h4⟩), if_neg (not_or.mpr ⟨h1, h2⟩), if_neg (not_or.mpr ⟨h3, h4⟩)]

noncomputable abbrev gd (l : List Int) (i : Nat) : Int := l.getD i 0
noncomputable def dec1 (l : List Int) (o : Nat) : List Int := l.set o (gd l o - 1)
theorem Us (l : List Int) (o : Nat) : (dec1 l o).length = l.length := List.length_set ..
theorem ZEn {l : List Int} {o : Nat} (h : o < l.length) (v : Int) (i : Nat) : gd (l.set o v) i = if o = i then v else gd l i := by
  unfold gd
  rw [List.getD_eq_getElem?_getD, List.getElem?_set]
  by_cases e : o = i
  · subst e; rw [if_pos rfl, if_pos h, if_pos rfl]; rfl
  · rw [if_neg e, if_neg e, List.getD_eq_getElem?_getD]
theorem XP (os : List Nat) : ∀ (l : List Int), (os.foldl dec1 l).length = l.length := by
  induction os with
  | nil => exact fun _ => rfl
  | cons o os ih => exact fun l => (ih (dec1 l o)).trans (Us l o)
theorem ZFd {os : List Nat} : ∀ {l : List Int}, os.Nodup → (∀ o ∈ os, o < l.length) → ∀ i, gd (os.foldl dec1 l) i = gd l i - (if i ∈ os then 1 else 0) := by
  induction os with
  | nil => exact fun _ _ i => by rw [if_neg List.not_mem_nil]; exact (Int.sub_zero _).symm
  | cons o os ih =>
    intro l nd h i
    obtain ⟨n1, n2⟩ := List.nodup_cons.mp nd
    rw [List.foldl_cons, ih n2 (fun o' ho => by rw [Us]; exact h o' (.tail _ ho)) i]
    unfold dec1
    rw [ZEn (h o (.head _))]
    by_cases e : o = i
    · subst e; rw [if_pos rfl, if_neg n1, if_pos (.head _)]; lia
    · rw [if_neg e]
      have : (i ∈ o :: os) ↔ i ∈ os := ⟨fun q => (List.mem_cons.mp q).resolve_left (Ne.symm e), .tail _⟩
      by_cases c : i ∈ os
      · rw [if_pos c, if_pos (this.mpr c)]
      · rw [if_neg c, if_neg fun q => c (this.mp q)]
structure Lay (n : Nat) (cs l : List Int) (T : Ties) : Prop where
  len : l.length = n
  eg : EG (List.range n) (gd l)
  ev : ∃ w : Int, sm (List.range n) (gd l) = 2 * w
  web : Web n T
  cn : ∀ x, x < n → (cnt T x : Int) + gd l x = gd cs x
  zr : ∀ t ∈ T, gd l t.1 = 0 ∨ gd l t.2 = 0
section
variable {n : Nat} {cs l : List Int} {T : Ties}
theorem Xk {P : List Nat} (nd : P.Nodup) {i : Nat} (hi : i ∈ P) (g : Nat → Int) (h : ∀ j ∈ P, j ≠ i → g j = 0) : sm P g = g i := by
  rw [Ju nd hi (f := fun _ => 0) (g := g) fun j hj ne => h j hj ne, XI]; lia
theorem EG.nonneg {P : List Nat} {d : Nat → Int} (h : EG P d) (nd : P.Nodup) {i : Nat} (hi : i ∈ P) : 0 ≤ d i := by
  have := h (upd (fun _ => 0) i (-1)) (Tri.upd (fun _ => .inr (.inl rfl)) i (.inr (.inr rfl)))
  rw [Xk nd hi (fun j => upd (fun _ => 0) i (-1) j * d j) (fun j _ ne => by rw [JZ _ _ ne, Int.zero_mul]), Xk nd hi (fun j => ps (upd (fun _ => 0) i (-1) j)) (fun j _ ne => by rw [JZ _ _ ne]; rfl), Jv, psm, Int.zero_mul] at this
  lia
theorem EG.top {P : List Nat} {d : Nat → Int} (h : EG P d) (nd : P.Nodup) {i : Nat} (hi : i ∈ P) : d i ≤ P.length - 1 := by
  have := h (upd (fun _ => 0) i 1) (Tri.upd (fun _ => .inr (.inl rfl)) i (.inl rfl))
  rw [Xk nd hi (fun j => upd (fun _ => 0) i 1 j * d j) (fun j _ ne => by rw [JZ _ _ ne, Int.zero_mul]), Xk nd hi (fun j => ps (upd (fun _ => 0) i 1 j)) (fun j _ ne => by rw [JZ _ _ ne]; rfl), Xk nd hi (fun j => ng (upd (fun _ => 0) i 1 j)) (fun j _ ne => by rw [JZ _ _ ne]; rfl), Jv, ps1, ng1] at this
  lia
theorem EG.perm {P R : List Nat} {d : Nat → Int} (h : EG P d) (p : P.Perm R) : EG R d := fun σ t => by
  rw [← QD p, ← QD p, ← QD p, ← p.length_eq]; exact h σ t
theorem EG.congr {P : List Nat} {d e : Nat → Int} (h : EG P d) (q : ∀ i ∈ P, d i = e i) : EG P e := fun σ t => by
  rw [JG (f := fun i => σ i * e i) (g := fun i => σ i * d i) fun i hi => by rw [q i hi]]; exact h σ t
theorem Lay.nonneg (L : Lay n cs l T) {i : Nat} (hi : i < n) : 0 ≤ gd l i := L.eg.nonneg List.nodup_range (List.mem_range.mpr hi)
theorem Lay.lt (L : Lay n cs l T) {i : Nat} (hi : i < n) : gd l i < n := by
  have := L.eg.top List.nodup_range (List.mem_range.mpr hi)
  rw [List.length_range] at this; lia
theorem ZEv {P A : List Nat} (nd : P.Nodup) (na : A.Nodup) (sub : ∀ a ∈ A, a ∈ P) : sm P (fun i => if i ∈ A then 1 else 0) = A.length := by
  induction A with
  | nil => rw [JG (g := fun _ => 0) fun i _ => if_neg List.not_mem_nil, XI]; rfl
  | cons a A ih =>
    obtain ⟨n1, n2⟩ := List.nodup_cons.mp na
    have := Ju nd (sub a (.head _)) (f := fun i => if i ∈ A then (1 : Int) else 0) (g := fun i => if i ∈ a :: A then (1 : Int) else 0) fun j _ ne => by
      by_cases c : j ∈ A
      · rw [if_pos c, if_pos (.tail _ c)]
      · rw [if_neg c, if_neg fun q => (List.mem_cons.mp q).elim ne c]
    rw [this, ih n2 fun a ha => sub a (.tail _ ha), if_pos (.head _), if_neg n1, List.length_cons]; lia
theorem Lay.turn (L : Lay n cs l T) {p : Nat} (hp : p < n) (pos : 0 < gd l p) {os : List Nat} (pm : (p :: os).Perm (List.range n)) (so : os.Pairwise fun i j => gd l j ≤ gd l i) :
    (gd l p).toNat ≤ os.length ∧ Lay n cs (((os.take (gd l p).toNat).foldl dec1 l).set p 0) (T ++ (os.take (gd l p).toNat).map (tie p)) ∧
    sm (List.range n) (gd (((os.take (gd l p).toNat).foldl dec1 l).set p 0)) < sm (List.range n) (gd l) := by
  have nd0 : (p :: os).Nodup := pm.symm.nodup List.nodup_range
  obtain ⟨np, nd⟩ := List.nodup_cons.mp nd0
  have lo : os.length + 1 = n := by have := pm.length_eq; rw [List.length_cons, List.length_range] at this; exact this
  have eg := L.eg.perm pm.symm
  have top := L.lt hp
  obtain ⟨k, hk⟩ : ∃ k : Nat, gd l p = k := ⟨_, (Int.toNat_of_nonneg (Int.le_of_lt pos)).symm⟩
  have ek : (gd l p).toNat = k := by rw [hk]; rfl
  rw [ek]
  have kl : k ≤ os.length := by lia
  refine ⟨kl, ?_⟩
  have mo : ∀ o ∈ os, o < n := fun o ho => List.mem_range.mp (pm.mem_iff.mp (.tail _ ho))
  have nt : (os.take k).Nodup := nd.sublist (List.take_sublist k os)
  have tsub : ∀ o ∈ os.take k, o ∈ os := fun o ho => List.mem_of_mem_take ho
  have tl : (os.take k).length = k := by rw [List.length_take]; lia
  have np' : p ∉ os.take k := fun q => np (tsub p q)
  have npi : ∀ i, i ∈ os → ¬ p = i := fun i hi q => np (q ▸ hi)
  have e1 : ∀ i, gd ((os.take k).foldl dec1 l) i = gd l i - (if i ∈ os.take k then 1 else 0) := ZFd nt fun o ho => by rw [L.len]; exact mo o (tsub o ho)
  have e2 : ∀ i, gd (((os.take k).foldl dec1 l).set p 0) i = if p = i then 0 else gd l i - (if i ∈ os.take k then 1 else 0) := fun i => by
    rw [ZEn (by rw [XP, L.len]; exact hp), e1]
  let N : Nat → Bool := fun i => decide (i ∈ os.take k)
  have nN' : ∀ i, nN N i = if i ∈ os.take k then 1 else 0 := fun i => by
    show (if decide (i ∈ os.take k) = true then (1 : Int) else 0) = _
    by_cases c : i ∈ os.take k
    · rw [decide_eq_true c, if_pos rfl, if_pos c]
    · rw [decide_eq_false c, if_neg (by decide), if_neg c]
  have split : os.take k ++ os.drop k = os := List.take_append_drop k os
  have so' := so
  rw [← split] at so'
  have sp := (List.pairwise_append.mp so').2.2
  obtain ⟨w, hw⟩ := L.ev
  have hw' : gd l p + sm os (gd l) = 2 * w := by rw [← JI, QD pm]; exact hw
  have eg2 := EG.lay (N := N) (d := gd l) eg np nd (fun i hi j hj h1 h2 => by
    have h1 : i ∈ os.take k := of_decide_eq_true h1
    have h2 : j ∉ os.take k := of_decide_eq_false h2
    have h3 : j ∈ os.drop k := by rw [← split] at hj; exact (List.mem_append.mp hj).resolve_left h2
    exact sp i h1 j h3) (by rw [JG fun i _ => nN' i, ZEv nd nt tsub, tl, hk]) hw'
  have eg3 : EG os (gd (((os.take k).foldl dec1 l).set p 0)) := eg2.congr fun i hi => by
    rw [e2, nN', if_neg (npi i hi)]
  have eg4 : EG (List.range n) (gd (((os.take k).foldl dec1 l).set p 0)) := (EG.off eg3 np (by rw [e2, if_pos rfl])).perm pm
  have s2 : sm os (gd (((os.take k).foldl dec1 l).set p 0)) = sm os (gd l) - k := by
    rw [JG (g := fun i => gd l i - (if i ∈ os.take k then 1 else 0)) fun i hi => by rw [e2, if_neg (npi i hi)], Jp, ZEv nd nt tsub, tl]
  have s3 : sm (List.range n) (gd (((os.take k).foldl dec1 l).set p 0)) = sm os (gd l) - k := by
    rw [← QD pm, JI, s2, e2, if_pos rfl, Int.zero_add]
  have s4 : sm (List.range n) (gd l) = k + sm os (gd l) := by rw [← QD pm, JI, hk]
  have z0 : ∀ t ∈ T, t.1 < n ∧ t.2 < n := fun t ht => by have := L.web.2 t ht; lia
  have ge : ∀ i ∈ os.take k, 0 < gd l i := fun i hi => by
    have := eg3.nonneg nd (tsub i hi)
    rw [e2, if_neg (npi i (tsub i hi)), if_pos hi] at this
    lia
  have zero : ∀ i, i < n → gd l i = 0 → gd (((os.take k).foldl dec1 l).set p 0) i = 0 := fun i hi h => by
    rw [e2]
    by_cases c : p = i
    · rw [if_pos c]
    · rw [if_neg c, if_neg fun q => by have := ge i q; lia, h]; rfl
  refine ⟨⟨by rw [List.length_set, XP, L.len], eg4, ⟨w - k, by rw [s3]; lia⟩, ⟨?_, ?_⟩, ?_, ?_⟩, by rw [s3, s4]; lia⟩
  · refine List.nodup_append.mpr ⟨L.web.1, ?_, fun t ht s hs e => ?_⟩
    · refine List.pairwise_map.mpr (nt.imp_of_mem fun {a b} ha hb ne q => ?_)
      rcases QE q with q | q
      · exact ne q.2
      · exact np' (q.1 ▸ hb)
    · obtain ⟨o, ho, rfl⟩ := List.mem_map.mp hs
      have zt := L.zr t ht
      rw [e] at zt
      have h1 := ge o ho
      unfold tie at zt
      dsimp only at zt
      rcases Nat.le_total p o with le | le
      · rw [Nat.min_eq_left le, Nat.max_eq_right le] at zt; lia
      · rw [Nat.min_eq_right le, Nat.max_eq_left le] at zt; lia
  · intro t ht
    rcases List.mem_append.mp ht with q | q
    · exact L.web.2 t q
    · obtain ⟨o, ho, rfl⟩ := List.mem_map.mp q
      exact VU (fun e => np' (e ▸ ho)) hp (mo o (tsub o ho))
  · intro x hx
    have cx : ∀ A : List Nat, A.Nodup → p ∉ A → ((cnt (A.map (tie p)) x : Nat) : Int) = if p = x then (A.length : Int) else if x ∈ A then 1 else 0 := by
      intro A
      induction A with
      | nil => intro _ _; by_cases c : p = x
               · rw [if_pos c]; rfl
               · rw [if_neg c, if_neg List.not_mem_nil]; rfl
      | cons a A ih =>
        intro nA pA
        obtain ⟨a1, a2⟩ := List.nodup_cons.mp nA
        have ih := ih a2 fun q => pA (.tail _ q)
        have : cnt ((a :: A).map (tie p)) x = cnt [tie p a] x + cnt (A.map (tie p)) x := QG [tie p a] (A.map (tie p)) x
        rw [this, XW, Int.natCast_add, ih]
        by_cases c : p = x
        · rw [if_pos c, if_pos (.inl c), if_pos c, List.length_cons]; lia
        · rw [if_neg c, if_neg c]
          by_cases c2 : a = x
          · subst c2
            rw [if_pos (.inr rfl), if_neg a1, if_pos (.head _)]; rfl
          · rw [if_neg fun q => q.elim c c2]
            by_cases c3 : x ∈ A
            · rw [if_pos c3, if_pos (.tail _ c3)]; rfl
            · rw [if_neg c3, if_neg fun q => (List.mem_cons.mp q).elim (fun q => c2 q.symm) c3]; rfl
    rw [QG, Int.natCast_add, cx _ nt np', e2, ← L.cn x hx, tl]
    by_cases c : p = x
    · subst c; rw [if_pos rfl, if_pos rfl, hk]; lia
    · rw [if_neg c, if_neg c]; lia
  · intro t ht
    rcases List.mem_append.mp ht with q | q
    · obtain ⟨h1, h2⟩ := z0 t q
      exact (L.zr t q).imp (zero _ h1) (zero _ h2)
    · obtain ⟨o, ho, rfl⟩ := List.mem_map.mp q
      have hz : gd (((os.take k).foldl dec1 l).set p 0) p = 0 := by rw [e2, if_pos rfl]
      unfold tie
      dsimp only
      rcases Nat.le_total p o with le | le
      · rw [Nat.min_eq_left le]; exact .inl hz
      · rw [Nat.max_eq_left le]; exact .inr hz
theorem Lay.done (L : Lay n cs l T) (h : ∀ x, x < n → gd l x ≤ 0) (x : Nat) (hx : x < n) : (cnt T x : Int) = gd cs x := by
  have := L.cn x hx
  have := L.nonneg hx
  have := h x hx
  lia
theorem Lay.start {n : Nat} {cs : List Int} (hl : cs.length = n) (eg : EG (List.range n) (gd cs)) {w : Int} (ev : sm (List.range n) (gd cs) = 2 * w) : Lay n cs cs [] :=
  ⟨hl, eg, ⟨w, ev⟩, ⟨.nil, nofun⟩, fun x hx => by show (0 : Int) + _ = _; lia, nofun⟩
end
theorem Hs {cs : List Int} : sm (List.range cs.length) (gd cs) = cs.sum := by
  unfold sm
  congr 1
  refine List.ext_getElem (by rw [List.length_map, List.length_range]) fun i h1 h2 => ?_
  rw [List.getElem_map, List.getElem_range]
  show cs.getD i 0 = _
  rw [List.getD_eq_getElem?_getD, List.getElem?_eq_getElem h2]; rfl
end TC

namespace TC
open PySem
noncomputable abbrev pr (t : Nat × Nat) : PyData := .tuple [.int t.1, .int t.2]
noncomputable def tf (t : Nat × Nat) : List Int := [(t.1 : Int), t.2]
noncomputable def tg (l : List Int) : Nat × Nat := ((l.getD 0 0).toNat, (l.getD 1 0).toNat)
theorem UG (ts : Ties) : allOf tupOf (ofPairs ts) = some (ts.map tf) := by
  induction ts with
  | nil => rfl
  | cons t ts ih => show (allOf tupOf (ofPairs ts)).map (tf t :: ·) = _; rw [ih]; rfl
theorem le_tr {a b c : List Int} (h1 : decide (a ≤ b) = true) (h2 : decide (b ≤ c) = true) : decide (a ≤ c) = true := decide_eq_true (List.le_trans (of_decide_eq_true h1) (of_decide_eq_true h2))
theorem le_tot (a b : List Int) : (decide (a ≤ b) || decide (b ≤ a)) = true := by
  rw [Bool.or_eq_true, decide_eq_true_iff, decide_eq_true_iff]; exact List.le_total a b
theorem XU (l : List (List Int)) : (sortT l).Pairwise fun a b => a ≤ b := (List.pairwise_mergeSort (le := fun a b : List Int => decide (a ≤ b)) (fun a b c => le_tr) le_tot l).imp of_decide_eq_true
theorem ZDk {l : List (List Int)} (h : l.Pairwise fun a b => a ≤ b) : sortT l = l := List.mergeSort_of_pairwise (h.imp decide_eq_true)
noncomputable def Sd (us : Ties) : Prop := sortT (us.map tf) = us.map tf
theorem tf_inj {a b : Nat × Nat} (q : tf a = tf b) : a = b := by
  injection q with q1 q2
  injection q2 with q2 _
  exact Prod.ext (Int.natCast_inj.mp q1) (Int.natCast_inj.mp q2)
theorem Sd.uniq {us vs : Ties} (h1 : Sd us) (h2 : Sd vs) (p : us.Perm vs) : us = vs := by
  have l1 := XU (us.map tf)
  have l2 := XU (vs.map tf)
  rw [h1] at l1
  rw [h2] at l2
  have e : us.map tf = vs.map tf := List.Perm.eq_of_pairwise (le := fun a b : List Int => a ≤ b) (fun x y _ _ p q => List.le_antisymm p q) l1 l2 (p.map tf)
  exact (List.map_inj_right fun _ _ => tf_inj).mp e
theorem Ja {v : V} {ts : Ties} {K : V → Prop} (e : rd v = some (.list (ofPairs ts))) (nd : ts.Nodup) (hz : ts.length < 64) (k : ∀ us : Ties, us.Perm ts → Sd us → K (.own (.list (ofPairs us)))) : F1.sorted.W v K := by
  show got (rd v) _
  rw [e]
  show Option.elim (allOf intOf (ofPairs ts)) _ _
  cases ts with
  | nil => exact ⟨(by decide), by have := k [] (List.Perm.refl _) List.mergeSort_nil; rw [show sortI [] = [] from List.mergeSort_nil]; exact this⟩
  | cons t ts =>
    show got (allOf tupOf (ofPairs (t :: ts))) _
    rw [UG]
    have inj : ∀ a b : Nat × Nat, a ≠ b → tf a ≠ tf b := fun a b ne q => ne (by
      injection q with q1 q2
      injection q2 with q2 _
      exact Prod.ext (Int.natCast_inj.mp q1) (Int.natCast_inj.mp q2))
    refine ⟨⟨by rw [List.length_map]; exact hz, List.Pairwise.map _ (fun a b => inj a b) nd, fun q => ?_⟩, ?_⟩
    · obtain ⟨_, _, e⟩ := List.mem_map.mp q; exact nomatch e
    · have p : (sortT ((t :: ts).map tf)).Perm ((t :: ts).map tf) := List.mergeSort_perm _ _
      have ef : ((sortT ((t :: ts).map tf)).map tg).map tf = sortT ((t :: ts).map tf) := by
        rw [List.map_map]
        refine (List.map_congr_left fun l hl => ?_).trans (List.map_id _)
        obtain ⟨u, _, rfl⟩ := List.mem_map.mp (p.mem_iff.mp hl)
        rfl
      have eg : ((t :: ts).map tf).map tg = t :: ts := by
        rw [List.map_map]
        exact (List.map_congr_left fun u _ => rfl).trans (List.map_id _)
      have := k ((sortT ((t :: ts).map tf)).map tg) (by have q := p.map tg; rw [eg] at q; exact q) (by unfold Sd; rw [ef]; exact ZDk (XU _))
      have e2 : ofTups (sortT ((t :: ts).map tf)) = ofPairs ((sortT ((t :: ts).map tf)).map tg) := by
        unfold ofTups ofPairs
        rw [List.map_map]
        refine List.map_congr_left fun l hl => ?_
        obtain ⟨u, _, rfl⟩ := List.mem_map.mp (p.mem_iff.mp hl)
        rfl
      rw [e2]; exact this
theorem Gn (u t : Nat × Nat) : PyData.eqv (pr u) (pr t) = decide (u = t) := by
  simp only [PyData.eqv, PyData.eqvAll, Bool.and_true]
  refine Bool.eq_iff_iff.mpr ?_
  rw [Bool.and_eq_true, beq_iff_eq, beq_iff_eq, decide_eq_true_iff, Prod.ext_iff]
  exact and_congr Int.natCast_inj Int.natCast_inj
theorem VZ (ts : Ties) (t : Nat × Nat) : ((ofPairs ts).any fun z => PyData.eqv z (pr t)) = decide (t ∈ ts) := by
  refine Bool.eq_iff_iff.mpr ?_
  rw [List.any_eq_true, decide_eq_true_iff]
  constructor
  · rintro ⟨z, hz, e⟩
    obtain ⟨u, hu, rfl⟩ := List.mem_map.mp hz
    rw [Gn] at e
    exact of_decide_eq_true e ▸ hu
  · exact fun h => ⟨pr t, List.mem_map.mpr ⟨t, h, rfl⟩, by rw [Gn]; exact decide_eq_true rfl⟩
theorem ZCs {u t : Nat × Nat} {K : V → Prop} (k : K (.d (.bool (!decide (u = t))))) : objW .ne (.d (pr u)) (.d (pr t)) K := by
  refine (show _ ∧ _ ∧ _ from ⟨(Sh.pair 0 _ _).shp, (Sh.pair 0 _ _).shp, ?_⟩)
  rw [Gn]; exact k
theorem in_pr {w : V} {t : Nat × Nat} {ts : Ties} {K : V → Prop} (e : rd w = some (.list (ofPairs ts))) (k : K (.d (.bool (decide (t ∈ ts))))) : objW .isin (.d (pr t)) w K := by
  show got (rd w) _
  rw [e]
  refine (show _ ∧ _ ∧ _ from ⟨(Sh.pair 0 _ _).shp, (Sh.pairs 0 ts).shp, ?_⟩)
  rw [VZ]; exact k
theorem XR {w : V} {t : Nat × Nat} {ts : Ties} {K : V → Prop} (e : rd w = some (.list (ofPairs ts))) (k : K (.d (.bool (!decide (t ∈ ts))))) : objW .notin (.d (pr t)) w K := by
  show got (rd w) _
  rw [e]
  refine (show _ ∧ _ ∧ _ from ⟨(Sh.pair 0 _ _).shp, (Sh.pairs 0 ts).shp, ?_⟩)
  rw [VZ]; exact k
theorem HD {w : V} {t : Nat × Nat} {ts : Ties} {K : V → Prop} (e : rd w = some (.list (ofPairs ts))) (k : K (.d (.bool (decide (t ∈ ts))))) : opW .isin (.d (pr t)) w K := in_pr e k
theorem Qx {w : V} {t : Nat × Nat} {ts : Ties} {K : V → Prop} (e : rd w = some (.list (ofPairs ts))) (k : K (.d (.bool (!decide (t ∈ ts))))) : opW .notin (.d (pr t)) w K := XR e k
theorem Js {step : Rho → (Option PyData → Prop) → Prop} {ρ : Rho} {K : V → Prop} (p : Nat × Nat → Bool) (ts : Ties) : ∀ (as : Ties), (∀ t ∈ ts, ∀ k : Option PyData → Prop, k (cond (p t) (some (pr t)) none) → step (ρ ++ [some (.d (pr t))]) k) →
    as.length + ts.length < 1000 → K (.own (.list (ofPairs (as ++ ts.filter p)))) → compW step none ρ K ((ofPairs ts).map .d) (ofPairs as) := by
  induction ts with
  | nil => intro as _ hl h; rw [List.filter_nil, List.append_nil] at h; exact ⟨Yv (by rw [Yr]; exact hl), h⟩
  | cons t ts ih =>
    intro as h hl hk
    rw [List.length_cons] at hl
    refine h t (.head _) _ ?_
    rw [List.filter_cons] at hk
    cases c : p t with
    | false => rw [c, if_neg (by decide)] at hk; exact ih as (fun u hu => h u (.tail _ hu)) (by omega) hk
    | true =>
      rw [c, if_pos rfl, ← List.singleton_append, ← List.append_assoc] at hk
      have := ih (as ++ [t]) (fun u hu => h u (.tail _ hu)) (by rw [List.length_append, List.length_singleton]; omega) hk
      rw [← JF] at this
      exact this
section
variable {n : Nat} {hm : Bool} {K : V → Prop} {X : Nat → Prop}
theorem Jk (a b : Nat) (k : K (.d (pr (tie a b)))) : wpCall T06 (n + 1) false 5 [.d (.int a), .d (.int b)] K X := by
  refine JC (fn := f_tie_of) rfl rfl (by decide) ?_
  dsimp only [f_tie_of, b_tie_of, wpSs, wpS, wpE, wpL, slotW, ownS, Rho.putL, frz, bindF, setD, setAll, bindT, F1.W, F2.W, F1.quiet, seqV, numW, isNon, Yx, Yu, Zu, Zt, YN, Zq, Zo, Zp, Za, ZM, YA, ZT, ZR, ZS, YM, Zl, ZY, ZX, ZH, ZG, YL, Zc, Zw, ZO, Yw, YB, Ys, ZP, ZQ, ZI, ZJ, Zd, Ze, Zm, Yt, Zn, Zk, ZK, ZZ, YE, YF, Zj, Zi, YG, YD, ZW, Zh, Zg, JA, YC, ZU, ZF, ZD, ZE, ZC, ZA, ZB, ZV, excIs, JN, YH, YI, Zf, Zr, YJ, YK, YZ, Ya, YQ, YR, YV, YW, Ym, Yn, Yb, Yc, Yi, Yj, YX, YY, Yd, Zy, Zz, JJ, JL, JM, JK, YU, Yo, Ye, Yf, YS, YT, YO, YP, Yy, Yz, Yk, Yl, Yp, Yq, JP, JO, Yh, Yg, Nat.reduceSub, Nat.reduceAdd, Zv, ZN, JB, Zb, Zs]
  have e1 : min (a : Int) b = ((min a b : Nat) : Int) := by omega
  have e2 : max (a : Int) b = ((max a b : Nat) : Int) := by omega
  rw [e1, e2]
  exact k
theorem JY (a b : Nat) (k : K (.d (pr (tie a b)))) : wpCall T06 (n + 1) hm 18 [.d (.int a), .d (.int b)] K X := by
  refine JC (fn := f__law_tied) rfl rfl (by decide) ?_
  dsimp only [f__law_tied, b__law_tied, wpSs, wpS, wpE, wpL, slotW, ownS, Rho.putL, frz, bindF, setD, setAll, bindT, F1.W, F2.W, F1.quiet, seqV, numW, isNon, Yx, Yu, Zu, Zt, YN, Zq, Zo, Zp, Za, ZM, YA, ZT, ZR, ZS, YM, Zl, ZY, ZX, ZH, ZG, YL, Zc, Zw, ZO, Yw, YB, Ys, ZP, ZQ, ZI, ZJ, Zd, Ze, Zm, Yt, Zn, Zk, ZK, ZZ, YE, YF, Zj, Zi, YG, YD, ZW, Zh, Zg, JA, YC, ZU, ZF, ZD, ZE, ZC, ZA, ZB, ZV, excIs, JN, YH, YI, Zf, Zr, YJ, YK, YZ, Ya, YQ, YR, YV, YW, Ym, Yn, Yb, Yc, Yi, Yj, YX, YY, Yd, Zy, Zz, JJ, JL, JM, JK, YU, Yo, Ye, Yf, YS, YT, YO, YP, Yy, Yz, Yk, Yl, Yp, Yq, JP, JO, Yh, Yg, Nat.reduceSub, Nat.reduceAdd, Zv, ZN, JB, Zb, Zs]
  unfold tie at k
  refine Ji (fun h => ?_) fun h => ?_
  · rw [Nat.min_eq_left (by omega), Nat.max_eq_right (by omega)] at k; exact k
  · rw [Nat.min_eq_right (by omega), Nat.max_eq_left (by omega)] at k; exact k
noncomputable abbrev rw4 (r : Row) : PyData := .tuple [.int r.a, .int r.b, .int r.c, .int r.d]
theorem Jb {ts : Ties} (h : ts.length < 60) : (ofPairs ts).length < lim := by rw [Yr]; exact Yv (by omega)
theorem XJ {m : Nat} {ts : Ties} {r : Row} (w : Web m ts) (f : Fit m ts r) (hl : ts.length < 60) (k : ∀ us : Ties, us.Perm (exch ts r) → Sd us → K (.own (.list (ofPairs us)))) : wpCall T06 (n + 2) false 7 [.d (.list (ofPairs ts)), .d (rw4 r)] K X := by
  refine JC (fn := f_done_by) rfl rfl (by decide) ?_
  dsimp only [f_done_by, b_done_by, wpSs, wpS, wpE, wpL, slotW, ownS, Rho.putL, frz, bindF, setD, setAll, bindT, F1.W, F2.W, F1.quiet, seqV, numW, isNon, Yx, Yu, Zu, Zt, YN, Zq, Zo, Zp, Za, ZM, YA, ZT, ZR, ZS, YM, Zl, ZY, ZX, ZH, ZG, YL, Zc, Zw, ZO, Yw, YB, Ys, ZP, ZQ, ZI, ZJ, Zd, Ze, Zm, Yt, Zn, Zk, ZK, ZZ, YE, YF, Zj, Zi, YG, YD, ZW, Zh, Zg, JA, YC, ZU, ZF, ZD, ZE, ZC, ZA, ZB, ZV, excIs, JN, YH, YI, Zf, Zr, YJ, YK, YZ, Ya, YQ, YR, YV, YW, Ym, Yn, Yb, Yc, Yi, Yj, YX, YY, Yd, Zy, Zz, JJ, JL, JM, JK, YU, Yo, Ye, Yf, YS, YT, YO, YP, Yy, Yz, Yk, Yl, Yp, Yq, JP, JO, Yh, Yg, Nat.reduceSub, Nat.reduceAdd, Zv, ZN, JB, Zb, Zs]
  refine ⟨by rw [List.length_map]; exact Jb hl, Js r.out ts [] (fun t ht kk hk => ?_) (by simp only [List.length_nil]; omega) ?_⟩
  · dsimp only [wpSs, wpS, wpE, wpL, slotW, ownS, Rho.putL, frz, bindF, setD, setAll, bindT, F1.W, F2.W, F1.quiet, seqV, numW, isNon, Yx, Yu, Zu, Zt, YN, Zq, Zo, Zp, Za, ZM, YA, ZT, ZR, ZS, YM, Zl, ZY, ZX, ZH, ZG, YL, Zc, Zw, ZO, Yw, YB, Ys, ZP, ZQ, ZI, ZJ, Zd, Ze, Zm, Yt, Zn, Zk, ZK, ZZ, YE, YF, Zj, Zi, YG, YD, ZW, Zh, Zg, JA, YC, ZU, ZF, ZD, ZE, ZC, ZA, ZB, ZV, excIs, JN, YH, YI, Zf, Zr, YJ, YK, YZ, Ya, YQ, YR, YV, YW, Ym, Yn, Yb, Yc, Yi, Yj, YX, YY, Yd, Zy, Zz, JJ, JL, JM, JK, YU, Yo, Ye, Yf, YS, YT, YO, YP, Yy, Yz, Yk, Yl, Yp, Yq, JP, JO, Yh, Yg, Nat.reduceSub, Nat.reduceAdd, Zv, ZN, JB, Zb, Zs]
    refine Jk r.a r.b (ZCs ?_)
    unfold Row.out at hk
    by_cases c1 : t = tie r.a r.b
    · rw [decide_eq_false fun q => q.1 c1] at hk; rw [decide_eq_true c1]; exact hk
    · rw [decide_eq_false c1]
      refine Jk r.c r.d (ZCs ?_)
      by_cases c2 : t = tie r.c r.d
      · rw [decide_eq_false fun q => q.2 c2] at hk; rw [decide_eq_true c2]; exact hk
      · rw [decide_eq_true ⟨c1, c2⟩] at hk; rw [decide_eq_false c2]; exact hk
  · rw [List.nil_append]
    dsimp only [wpSs, wpS, wpE, wpL, slotW, ownS, Rho.putL, frz, bindF, setD, setAll, bindT, F1.W, F2.W, F1.quiet, seqV, numW, isNon, Yx, Yu, Zu, Zt, YN, Zq, Zo, Zp, Za, ZM, YA, ZT, ZR, ZS, YM, Zl, ZY, ZX, ZH, ZG, YL, Zc, Zw, ZO, Yw, YB, Ys, ZP, ZQ, ZI, ZJ, Zd, Ze, Zm, Yt, Zn, Zk, ZK, ZZ, YE, YF, Zj, Zi, YG, YD, ZW, Zh, Zg, JA, YC, ZU, ZF, ZD, ZE, ZC, ZA, ZB, ZV, excIs, JN, YH, YI, Zf, Zr, YJ, YK, YZ, Ya, YQ, YR, YV, YW, Ym, Yn, Yb, Yc, Yi, Yj, YX, YY, Yd, Zy, Zz, JJ, JL, JM, JK, YU, Yo, Ye, Yf, YS, YT, YO, YP, Yy, Yz, Yk, Yl, Yp, Yq, JP, JO, Yh, Yg, Nat.reduceSub, Nat.reduceAdd, Zv, ZN, JB, Zb, Zs]
    refine Jk r.a r.c (Jk r.b r.d ?_)
    have fl : (ts.filter r.out).length ≤ ts.length := List.length_filter_le ..
    refine (show _ ∧ _ from ⟨Yv (by rw [Yr]; simp only [List.length_cons, List.length_nil]; omega), ?_⟩)
    refine Ja (v := .own (.list (ofPairs (ts.filter r.out) ++ ofPairs [tie r.a r.c, tie r.b r.d]))) (ts := exch ts r) (congrArg some (congrArg PyData.list (JF (ts.filter r.out) [tie r.a r.c, tie r.b r.d]))) (f.web w).1 (by rw [f.len w]; omega) fun us p sd => k us p sd
theorem Vr {m : Nat} {ts : Ties} {r : Row} (w : Web m ts) (f : Fit m ts r) (hl : ts.length < 60) (k : ∀ us : Ties, us.Perm (exch ts r) → Sd us → K (.own (.list (ofPairs us)))) : wpCall T06 (n + 2) false 21 [.d (.list (ofPairs ts)), .d (rw4 r)] K X := by
  refine JC (fn := f__law_left) rfl rfl (by decide) ?_
  dsimp only [f__law_left, b__law_left, wpSs, wpS, wpE, wpL, slotW, ownS, Rho.putL, frz, bindF, setD, setAll, bindT, F1.W, F2.W, F1.quiet, seqV, numW, isNon, Yx, Yu, Zu, Zt, YN, Zq, Zo, Zp, Za, ZM, YA, ZT, ZR, ZS, YM, Zl, ZY, ZX, ZH, ZG, YL, Zc, Zw, ZO, Yw, YB, Ys, ZP, ZQ, ZI, ZJ, Zd, Ze, Zm, Yt, Zn, Zk, ZK, ZZ, YE, YF, Zj, Zi, YG, YD, ZW, Zh, Zg, JA, YC, ZU, ZF, ZD, ZE, ZC, ZA, ZB, ZV, excIs, JN, YH, YI, Zf, Zr, YJ, YK, YZ, Ya, YQ, YR, YV, YW, Ym, Yn, Yb, Yc, Yi, Yj, YX, YY, Yd, Zy, Zz, JJ, JL, JM, JK, YU, Yo, Ye, Yf, YS, YT, YO, YP, Yy, Yz, Yk, Yl, Yp, Yq, JP, JO, Yh, Yg, Nat.reduceSub, Nat.reduceAdd, Zv, ZN, JB, Zb, Zs]
  refine ⟨by rw [List.length_map]; exact Jb hl, Js r.out ts [] (fun t ht kk hk => ?_) (by simp only [List.length_nil]; omega) ?_⟩
  · dsimp only [wpSs, wpS, wpE, wpL, slotW, ownS, Rho.putL, frz, bindF, setD, setAll, bindT, F1.W, F2.W, F1.quiet, seqV, numW, isNon, Yx, Yu, Zu, Zt, YN, Zq, Zo, Zp, Za, ZM, YA, ZT, ZR, ZS, YM, Zl, ZY, ZX, ZH, ZG, YL, Zc, Zw, ZO, Yw, YB, Ys, ZP, ZQ, ZI, ZJ, Zd, Ze, Zm, Yt, Zn, Zk, ZK, ZZ, YE, YF, Zj, Zi, YG, YD, ZW, Zh, Zg, JA, YC, ZU, ZF, ZD, ZE, ZC, ZA, ZB, ZV, excIs, JN, YH, YI, Zf, Zr, YJ, YK, YZ, Ya, YQ, YR, YV, YW, Ym, Yn, Yb, Yc, Yi, Yj, YX, YY, Yd, Zy, Zz, JJ, JL, JM, JK, YU, Yo, Ye, Yf, YS, YT, YO, YP, Yy, Yz, Yk, Yl, Yp, Yq, JP, JO, Yh, Yg, Nat.reduceSub, Nat.reduceAdd, Zv, ZN, JB, Zb, Zs]
    refine JY r.a r.b (JY r.c r.d ?_)
    dsimp only [wpSs, wpS, wpE, wpL, slotW, ownS, Rho.putL, frz, bindF, setD, setAll, bindT, F1.W, F2.W, F1.quiet, seqV, numW, isNon, Yx, Yu, Zu, Zt, YN, Zq, Zo, Zp, Za, ZM, YA, ZT, ZR, ZS, YM, Zl, ZY, ZX, ZH, ZG, YL, Zc, Zw, ZO, Yw, YB, Ys, ZP, ZQ, ZI, ZJ, Zd, Ze, Zm, Yt, Zn, Zk, ZK, ZZ, YE, YF, Zj, Zi, YG, YD, ZW, Zh, Zg, JA, YC, ZU, ZF, ZD, ZE, ZC, ZA, ZB, ZV, excIs, JN, YH, YI, Zf, Zr, YJ, YK, YZ, Ya, YQ, YR, YV, YW, Ym, Yn, Yb, Yc, Yi, Yj, YX, YY, Yd, Zy, Zz, JJ, JL, JM, JK, YU, Yo, Ye, Yf, YS, YT, YO, YP, Yy, Yz, Yk, Yl, Yp, Yq, JP, JO, Yh, Yg, Nat.reduceSub, Nat.reduceAdd, Zv, ZN, JB, Zb, Zs]
    refine XR (t := t) (w := .own (.list [pr (tie r.a r.b), pr (tie r.c r.d)])) (ts := [tie r.a r.b, tie r.c r.d]) rfl ?_
    have e : (!decide (t ∈ [tie r.a r.b, tie r.c r.d])) = r.out t := by
      unfold Row.out
      rw [← decide_not]
      exact decide_eq_decide.mpr (by rw [List.mem_cons, List.mem_singleton, not_or])
    rw [e]
    revert hk
    cases r.out t <;> exact id
  · rw [List.nil_append]
    dsimp only [wpSs, wpS, wpE, wpL, slotW, ownS, Rho.putL, frz, bindF, setD, setAll, bindT, F1.W, F2.W, F1.quiet, seqV, numW, isNon, Yx, Yu, Zu, Zt, YN, Zq, Zo, Zp, Za, ZM, YA, ZT, ZR, ZS, YM, Zl, ZY, ZX, ZH, ZG, YL, Zc, Zw, ZO, Yw, YB, Ys, ZP, ZQ, ZI, ZJ, Zd, Ze, Zm, Yt, Zn, Zk, ZK, ZZ, YE, YF, Zj, Zi, YG, YD, ZW, Zh, Zg, JA, YC, ZU, ZF, ZD, ZE, ZC, ZA, ZB, ZV, excIs, JN, YH, YI, Zf, Zr, YJ, YK, YZ, Ya, YQ, YR, YV, YW, Ym, Yn, Yb, Yc, Yi, Yj, YX, YY, Yd, Zy, Zz, JJ, JL, JM, JK, YU, Yo, Ye, Yf, YS, YT, YO, YP, Yy, Yz, Yk, Yl, Yp, Yq, JP, JO, Yh, Yg, Nat.reduceSub, Nat.reduceAdd, Zv, ZN, JB, Zb, Zs]
    refine JY r.a r.c (JY r.b r.d ?_)
    have fl : (ts.filter r.out).length ≤ ts.length := List.length_filter_le ..
    refine (show _ ∧ _ from ⟨Yv (by rw [Yr]; simp only [List.length_cons, List.length_nil]; omega), ?_⟩)
    refine Ja (v := .own (.list (ofPairs (ts.filter r.out) ++ ofPairs [tie r.a r.c, tie r.b r.d]))) (ts := exch ts r) (congrArg some (congrArg PyData.list (JF (ts.filter r.out) [tie r.a r.c, tie r.b r.d]))) (f.web w).1 (by rw [f.len w]; omega) fun us p sd => k us p sd
theorem Gr {m : Nat} {ts : Ties} {r : Row} (f : Fit m ts r) (k : K (.d (.bool true))) : wpCall T06 (n + 2) hm 20 [.d (.list (ofPairs ts)), .d (rw4 r)] K X := by
  refine JC (fn := f__law_fits) rfl rfl (by decide) ?_
  dsimp only [f__law_fits, b__law_fits, wpSs, wpS, wpE, wpL, slotW, ownS, Rho.putL, frz, bindF, setD, setAll, bindT, F1.W, F2.W, F1.quiet, seqV, numW, isNon, Yx, Yu, Zu, Zt, YN, Zq, Zo, Zp, Za, ZM, YA, ZT, ZR, ZS, YM, Zl, ZY, ZX, ZH, ZG, YL, Zc, Zw, ZO, Yw, YB, Ys, ZP, ZQ, ZI, ZJ, Zd, Ze, Zm, Yt, Zn, Zk, ZK, ZZ, YE, YF, Zj, Zi, YG, YD, ZW, Zh, Zg, JA, YC, ZU, ZF, ZD, ZE, ZC, ZA, ZB, ZV, excIs, JN, YH, YI, Zf, Zr, YJ, YK, YZ, Ya, YQ, YR, YV, YW, Ym, Yn, Yb, Yc, Yi, Yj, YX, YY, Yd, Zy, Zz, JJ, JL, JM, JK, YU, Yo, Ye, Yf, YS, YT, YO, YP, Yy, Yz, Yk, Yl, Yp, Yq, JP, JO, Yh, Yg, Nat.reduceSub, Nat.reduceAdd, Zv, ZN, JB, Zb, Zs]
  refine JY r.a r.b (HD rfl ?_)
  rw [decide_eq_true f.in1]
  refine JY r.c r.d (HD rfl ?_)
  rw [decide_eq_true f.in2]
  refine JY r.a r.c (Qx rfl ?_)
  rw [decide_eq_false f.out1]
  refine JY r.b r.d (Qx rfl ?_)
  rw [decide_eq_false f.out2]
  exact k
end
end TC

namespace TC
open PySem
theorem US {m : Nat} {t : Nat × Nat} (h1 : t.1 < t.2) (h2 : t.2 < m) : t ∈ pairsTo m := by
  unfold pairsTo
  exact List.mem_flatMap.mpr ⟨t.2, List.mem_range.mpr h2, List.mem_map.mpr ⟨t.1, List.mem_range.mpr h1, rfl⟩⟩
theorem ZCy : ∀ m < 11, (pairsTo m).length ≤ 45 := by decide
theorem JT {m : Nat} {ts : Ties} (w : Web m ts) (h : m ≤ 10) : ts.length ≤ 45 :=
  Nat.le_trans (List.Nodup.length_le_of_subset w.1 fun t ht => US (w.2 t ht).1 (w.2 t ht).2) (ZCy m (by lia))
theorem Qh {m : Nat} {ts us : Ties} (p : us.Perm ts) (w : Web m ts) : Web m us := ⟨p.nodup_iff.mpr w.1, fun t ht => w.2 t (p.mem_iff.mp ht)⟩
noncomputable def cntsB : PyData → Bool
  | .list xs => decide (1 ≤ xs.length) && decide (xs.length ≤ 10) && xs.all fun x => amongB x 0 20
  | _ => false
noncomputable def ShortC : PyData → Prop
  | .list xs => xs.length < 1000
  | _ => True
section
variable {n : Nat} {hm : Bool} {K : V → Prop} {X : Nat → Prop}
theorem Ww {Ko : KS} {l : Option V} {ys : List PyData} : ∀ {s1 : Option V}, ((ys.all fun x => amongB x 0 20) = true → ∀ ρ, Ko .nxt ρ) → ((ys.all fun x => amongB x 0 20) = false → X 1) →
    forW (fun x ρ' k => bindF (.one 1) x ρ' fun ρ'' => wpSs (wpCall T06 (n + 1)) false b_need_counts_1 ρ'' k (fun c _ => X c)) Ko (ys.map .d) [l, s1] := by
  induction ys with
  | nil => exact fun h _ => h rfl _
  | cons y ys ih =>
    intro s1 h1 h2
    dsimp only [forW, b_need_counts_1, wpSs, wpS, wpE, wpL, slotW, ownS, Rho.putL, frz, bindF, setD, setAll, bindT, F1.W, F2.W, F1.quiet, seqV, numW, isNon, Yx, Yu, Zu, Zt, YN, Zq, Zo, Zp, Za, ZM, YA, ZT, ZR, ZS, YM, Zl, ZY, ZX, ZH, ZG, YL, Zc, Zw, ZO, Yw, YB, Ys, ZP, ZQ, ZI, ZJ, Zd, Ze, Zm, Yt, Zn, Zk, ZK, ZZ, YE, YF, Zj, Zi, YG, YD, ZW, Zh, Zg, JA, YC, ZU, ZF, ZD, ZE, ZC, ZA, ZB, ZV, excIs, JN, YH, YI, Zf, Zr, YJ, YK, YZ, Ya, YQ, YR, YV, YW, Ym, Yn, Yb, Yc, Yi, Yj, YX, YY, Yd, Zy, Zz, JJ, JL, JM, JK, YU, Yo, Ye, Yf, YS, YT, YO, YP, Yy, Yz, Yk, Yl, Yp, Yq, JP, JO, Yh, Yg, Nat.reduceSub, Nat.reduceAdd, Zv, ZN, JB, Zb, Zs]
    refine Qc y 0 20 ?_
    rw [List.all_cons] at h1 h2
    cases e : amongB y 0 20 with
    | false => rw [e] at h2; exact ⟨rfl, h2 rfl⟩
    | true => rw [e] at h1 h2; exact ih h1 h2
theorem Wx (x : PyData) (hx : ShortC x) (h1 : cntsB x = true → K (.d .none)) (h2 : cntsB x = false → X 1) : wpCall T06 (n + 2) false 1 [.d x] K X := by
  refine JC (fn := f_need_counts) rfl rfl (by decide) ?_
  dsimp only [f_need_counts, b_need_counts, wpSs, wpS, wpE, wpL, slotW, ownS, Rho.putL, frz, bindF, setD, setAll, bindT, F1.W, F2.W, F1.quiet, seqV, numW, isNon, Yx, Yu, Zu, Zt, YN, Zq, Zo, Zp, Za, ZM, YA, ZT, ZR, ZS, YM, Zl, ZY, ZX, ZH, ZG, YL, Zc, Zw, ZO, Yw, YB, Ys, ZP, ZQ, ZI, ZJ, Zd, Ze, Zm, Yt, Zn, Zk, ZK, ZZ, YE, YF, Zj, Zi, YG, YD, ZW, Zh, Zg, JA, YC, ZU, ZF, ZD, ZE, ZC, ZA, ZB, ZV, excIs, JN, YH, YI, Zf, Zr, YJ, YK, YZ, Ya, YQ, YR, YV, YW, Ym, Yn, Yb, Yc, Yi, Yj, YX, YY, Yd, Zy, Zz, JJ, JL, JM, JK, YU, Yo, Ye, Yf, YS, YT, YO, YP, Yy, Yz, Yk, Yl, Yp, Yq, JP, JO, Yh, Yg, Nat.reduceSub, Nat.reduceAdd, Zv, ZN, JB, Zb, Zs]
  cases x with
  | list xs =>
    have lx : xs.length < lim := Yv hx
    have go : cntsB (.list xs) = (decide (1 ≤ xs.length) && decide (xs.length ≤ 10) && xs.all fun x => amongB x 0 20) := rfl
    rw [go] at h1 h2
    refine (show _ ∧ _ from ⟨lx, ?_⟩)
    refine Ji (fun l1 => ?_) fun l1 => ⟨rfl, h2 (by rw [decide_eq_false (show ¬ 1 ≤ xs.length by lia)]; rfl)⟩
    by_cases l2 : (xs.length : Int) ≤ 10
    · rw [decide_eq_true l2]
      rw [decide_eq_true (show 1 ≤ xs.length by lia), decide_eq_true (show xs.length ≤ 10 by lia)] at h1 h2
      exact ⟨by rw [List.length_map]; exact lx, Ww (fun e _ => h1 e) h2⟩
    · rw [decide_eq_false l2]
      exact ⟨rfl, h2 (by rw [decide_eq_false (show ¬ xs.length ≤ 10 by lia), Bool.and_false]; rfl)⟩
  | _ => exact ⟨rfl, h2 rfl⟩
noncomputable def rowOf (cs : List Int) : List Int := (sortI cs).reverse
noncomputable def wantS (cs : List Int) (k : Nat) : Int := ((rowOf cs).take k).sum
noncomputable def mostS (cs : List Int) (k : Nat) : Int := (k : Int) * (k - 1) + (((rowOf cs).drop k).map fun c => min c (k : Int)).sum
theorem ZGr (cs : List Int) : (rowOf cs).length = cs.length := by unfold rowOf sortI; rw [List.length_reverse, List.length_mergeSort]
noncomputable def minP (k : Nat) : V → Option PyData
  | .d (.int c) => some (.int (min c k))
  | _ => none
theorem Vt (k : Nat) (l : List Int) : List.filterMap (minP k) ((ofInts l).map V.d) = ofInts (l.map fun c => min c (k : Int)) := by
  induction l with
  | nil => rfl
  | cons a l ih => exact congrArg (PyData.int (min a k) :: ·) ih
theorem ZAj (cs : List Int) (hl : cs.length ≤ 10) (k : Nat) (hk : k ≤ 10) (q : K (.d (.tuple [.int (wantS cs k), .int (mostS cs k)]))) : wpCall T06 (n + 1) false 2 [.d (.list (ofInts cs)), .d (.int k)] K X := by
  have lr := ZGr cs
  refine JC (fn := f_want_of) rfl rfl (by decide) ?_
  dsimp only [f_want_of, b_want_of, wpSs, wpS, wpE, wpL, slotW, ownS, Rho.putL, frz, bindF, setD, setAll, bindT, F1.W, F2.W, F1.quiet, seqV, numW, isNon, Yx, Yu, Zu, Zt, YN, Zq, Zo, Zp, Za, ZM, YA, ZT, ZR, ZS, YM, Zl, ZY, ZX, ZH, ZG, YL, Zc, Zw, ZO, Yw, YB, Ys, ZP, ZQ, ZI, ZJ, Zd, Ze, Zm, Yt, Zn, Zk, ZK, ZZ, YE, YF, Zj, Zi, YG, YD, ZW, Zh, Zg, JA, YC, ZU, ZF, ZD, ZE, ZC, ZA, ZB, ZV, excIs, JN, YH, YI, Zf, Zr, YJ, YK, YZ, Ya, YQ, YR, YV, YW, Ym, Yn, Yb, Yc, Yi, Yj, YX, YY, Yd, Zy, Zz, JJ, JL, JM, JK, YU, Yo, Ye, Yf, YS, YT, YO, YP, Yy, Yz, Yk, Yl, Yp, Yq, JP, JO, Yh, Yg, Nat.reduceSub, Nat.reduceAdd, Zv, ZN, JB, Zb, Zs]
  rw [Jd]
  refine ⟨by lia, ?_⟩
  have e : ∀ i : Nat, (ofInts (rowOf cs)).drop i = ofInts ((rowOf cs).drop i) := fun i => (List.map_drop ..).symm
  have e' : ∀ i : Nat, (ofInts (rowOf cs)).take i = ofInts ((rowOf cs).take i) := fun i => (List.map_take ..).symm
  have l1 : (ofInts (rowOf cs)).length < lim := by rw [JD, lr]; exact Yv (by lia)
  refine (show _ ∧ _ from ⟨⟨Int.natCast_nonneg k, JR (by lia), l1⟩, ?_⟩)
  rw [show List.drop (k : Int).toNat (ofInts (sortI cs).reverse) = ofInts ((rowOf cs).drop k) from e k]
  have ld : ((rowOf cs).drop k).length ≤ 10 := by rw [List.length_drop]; lia
  refine (show _ ∧ _ from ⟨by rw [List.length_map, JD]; exact Yv (by lia), ?_⟩)
  refine Jy (minP k) _ _ (fun x hx kk hk => ?_) ?_ ?_
  · obtain ⟨y, hy, rfl⟩ := List.mem_map.mp hx
    obtain ⟨c, _, rfl⟩ := List.mem_map.mp hy
    exact hk
  · rw [List.nil_append, Vt, JD, List.length_map]; exact Yv (by lia)
  · rw [List.nil_append, Vt]
    dsimp only [wpSs, wpS, wpE, wpL, slotW, ownS, Rho.putL, frz, bindF, setD, setAll, bindT, F1.W, F2.W, F1.quiet, seqV, numW, isNon, Yx, Yu, Zu, Zt, YN, Zq, Zo, Zp, Za, ZM, YA, ZT, ZR, ZS, YM, Zl, ZY, ZX, ZH, ZG, YL, Zc, Zw, ZO, Yw, YB, Ys, ZP, ZQ, ZI, ZJ, Zd, Ze, Zm, Yt, Zn, Zk, ZK, ZZ, YE, YF, Zj, Zi, YG, YD, ZW, Zh, Zg, JA, YC, ZU, ZF, ZD, ZE, ZC, ZA, ZB, ZV, excIs, JN, YH, YI, Zf, Zr, YJ, YK, YZ, Ya, YQ, YR, YV, YW, Ym, Yn, Yb, Yc, Yi, Yj, YX, YY, Yd, Zy, Zz, JJ, JL, JM, JK, YU, Yo, Ye, Yf, YS, YT, YO, YP, Yy, Yz, Yk, Yl, Yp, Yq, JP, JO, Yh, Yg, Nat.reduceSub, Nat.reduceAdd, Zv, ZN, JB, Zb, Zs]
    refine (show _ ∧ _ from ⟨⟨Int.natCast_nonneg k, JR (by lia), l1⟩, ?_⟩)
    rw [show List.take (k : Int).toNat (ofInts (sortI cs).reverse) = ofInts ((rowOf cs).take k) from e' k]
    show got (allOf intOf (ofInts ((rowOf cs).take k))) _
    rw [Jd ((rowOf cs).take k)]
    refine (show _ ∧ _ from ⟨IntMulOk.of_le (intBits_le_64 (by lia) (by lia)) (intBits_le_64 (by lia) (by lia)) (by decide), ?_⟩)
    rw [Jd]
    exact q
theorem ZDu : ∀ (l : List Int) (a : Int), (l.foldl max a = a ∨ l.foldl max a ∈ l) ∧ a ≤ l.foldl max a ∧ ∀ x ∈ l, x ≤ l.foldl max a := by
  intro l
  induction l with
  | nil => exact fun a => ⟨.inl rfl, Int.le_refl _, nofun⟩
  | cons b l ih =>
    intro a
    obtain ⟨h1, h2, h3⟩ := ih (max a b)
    have e : (b :: l).foldl max a = l.foldl max (max a b) := rfl
    rw [e]
    refine ⟨?_, by lia, fun x hx => ?_⟩
    · rcases h1 with h | h
      · by_cases c : a ≤ b
        · exact .inr (by rw [h, show max a b = b by lia]; exact .head _)
        · exact .inl (by rw [h]; lia)
      · exact .inr (.tail _ h)
    · rcases List.mem_cons.mp hx with rfl | hx
      · lia
      · exact h3 x hx
theorem HR {l : List Int} (h : l ≠ []) : ∃ m, maxL l = some m ∧ m ∈ l ∧ ∀ x ∈ l, x ≤ m := by
  cases l with
  | nil => exact absurd rfl h
  | cons a l =>
    obtain ⟨h1, h2, h3⟩ := ZDu l a
    refine ⟨l.foldl max a, rfl, h1.elim (fun e => by rw [e]; exact .head _) (.tail _), fun x hx => ?_⟩
    rcases List.mem_cons.mp hx with rfl | hx
    · exact h2
    · exact h3 x hx
theorem ZEm {l : List Int} {i : Nat} (h : i < l.length) : gd l i ∈ l := by
  show l.getD i 0 ∈ l
  rw [List.getD_eq_getElem?_getD, List.getElem?_eq_getElem h]; exact List.getElem_mem h
theorem gd_idx {l : List Int} {m : Int} (h : m ∈ l) : l.idxOf m < l.length ∧ gd l (l.idxOf m) = m := by
  have lt := List.idxOf_lt_length_of_mem h
  refine ⟨lt, ?_⟩
  show l.getD _ 0 = m
  rw [List.getD_eq_getElem?_getD, List.getElem?_eq_getElem lt]
  exact List.getElem_idxOf lt
noncomputable def ky (l : List Int) (i : Nat) : List Int := [0 - gd l i, (i : Int)]
noncomputable def kyP (l : List Int) (p : Nat) : V → Option PyData
  | .d (.int i) => cond (decide (i = (p : Int))) none (some (.tuple [.int (0 - gd l i.toNat), .int i]))
  | _ => none
theorem WE (l : List Int) (p m : Nat) : List.filterMap (kyP l p) ((rangeL m).map fun i => V.d (.int i)) = ofTups (((List.range m).filter fun i => decide (i ≠ p)).map (ky l)) := by
  unfold ofTups
  rw [WR, List.map_map, List.filterMap_map, List.map_map]
  induction List.range m with
  | nil => rfl
  | cons i r ih =>
    have e : (kyP l p ∘ (fun i => V.d (PyData.int i)) ∘ fun (i : Nat) => (i : Int)) i = cond (decide (i = p)) none (some (.tuple (ofInts (ky l i)))) := by
      show cond (decide ((i : Int) = p)) none (some _) = _
      rw [decide_eq_decide.mpr (Int.natCast_inj (m := i) (n := p))]; rfl
    rw [List.filterMap_cons, List.filter_cons, e, decide_not]
    cases decide (i = p) with
    | true => exact ih
    | false => exact congrArg (PyData.tuple (ofInts (ky l i)) :: ·) ih
theorem WZ (ts : List (List Int)) : allOf tupOf (ofTups ts) = some ts := by
  induction ts with
  | nil => rfl
  | cons t ts ih =>
    show ((allOf intOf (ofInts t)).bind fun a => (allOf tupOf (ofTups ts)).map (a :: ·)) = _
    rw [Jd, ih]; rfl
theorem ky_inj {l : List Int} {i j : Nat} (h : ky l i = ky l j) : i = j := by
  injection h with _ h; injection h with h _; exact Int.natCast_inj.mp h
theorem Hf {l : List Int} {p m : Nat} (hp : p < m) : ∃ os : List Nat, sortT (((List.range m).filter fun i => decide (i ≠ p)).map (ky l)) = os.map (ky l) ∧ (p :: os).Perm (List.range m) ∧ os.Pairwise fun i j => gd l j ≤ gd l i := by
  have pm : (sortT (((List.range m).filter fun i => decide (i ≠ p)).map (ky l))).Perm (((List.range m).filter fun i => decide (i ≠ p)).map (ky l)) := List.mergeSort_perm _ _
  have le := XU (((List.range m).filter fun i => decide (i ≠ p)).map (ky l))
  generalize sortT (((List.range m).filter fun i => decide (i ≠ p)).map (ky l)) = st at *
  have un : (st.map fun t => (t.getD 1 0).toNat).map (ky l) = st := by
    rw [List.map_map]
    refine (List.map_congr_left fun t ht => ?_).trans (List.map_id _)
    obtain ⟨i, _, rfl⟩ := List.mem_map.mp (pm.mem_iff.mp ht)
    rfl
  refine ⟨st.map fun t => (t.getD 1 0).toNat, un.symm, ?_, ?_⟩
  · have q := pm.map fun t : List Int => (t.getD 1 0).toNat
    rw [List.map_map, show ((fun t : List Int => (t.getD 1 0).toNat) ∘ ky l) = id from rfl, List.map_id] at q
    refine (q.cons p).trans ((List.perm_ext_iff_of_nodup (List.nodup_cons.mpr ⟨fun z => ?_, List.nodup_range.filter _⟩) List.nodup_range).mpr fun x => ?_)
    · exact of_decide_eq_true (List.mem_filter.mp z).2 rfl
    · rw [List.mem_cons, List.mem_filter, decide_eq_true_iff, List.mem_range]
      constructor
      · rintro (rfl | h)
        · exact hp
        · exact h.1
      · intro h
        by_cases c : x = p
        · exact .inl c
        · exact .inr ⟨h, c⟩
  · rw [← un, List.pairwise_map] at le
    refine le.imp fun {i j} h => ?_
    rcases List.cons_le_cons_iff.mp h with h | h
    · lia
    · have := h.1; lia
noncomputable abbrev ldR (cs l : List Int) (T : Ties) (a b c d : Option V) : Rho := [some (.d (.list (ofInts cs))), some (.own (.list (ofInts l))), some (.own (.list (ofPairs T))), a, b, c, d]
theorem ZAa {α : Type} {l : List α} {i : Nat} (h : i < l.length) : l.take (i + 1) = l.take i ++ [l[i]] := by
  rw [List.take_add_one, List.getElem?_eq_getElem h]; rfl
theorem HM {cs l : List Int} {T : Ties} {m p : Nat} {os : List Nat} (hz : m ≤ 10) (hl : l.length = m) (ht : T.length ≤ 45) (hp : p < m) (pm : (p :: os).Perm (List.range m)) {k : Nat} (hk : k ≤ os.length) {c d : Option V} {Ko : KS}
    (q : ∀ c d, Ko .nxt (ldR cs ((os.take k).foldl dec1 l) (T ++ (os.take k).map (tie p)) (some (.d (.int p))) (some (.d (.list (ofTups (os.map (ky l)))))) c d)) :
    forW (fun x ρ' k => bindF (.one 5) x ρ' fun ρ'' => wpSs (wpCall T06 (n + 1)) false b_laid_1 ρ'' k (fun c _ => X c)) Ko ((rangeL k).map fun i => .d (.int i)) (ldR cs l T (some (.d (.int p))) (some (.d (.list (ofTups (os.map (ky l)))))) c d) := by
  have lo : os.length + 1 = m := by have := pm.length_eq; rw [List.length_cons, List.length_range] at this; exact this
  refine Jz _ (fun i ρ => ∃ c d, ρ = ldR cs ((os.take i).foldl dec1 l) (T ++ (os.take i).map (tie p)) (some (.d (.int p))) (some (.d (.list (ofTups (os.map (ky l)))))) c d) ?_ ?_ _ ⟨c, d, by rw [List.take_zero, List.map_nil, List.append_nil]; rfl⟩
  · rintro ρ ⟨c, d, rfl⟩
    rw [JS]
    exact q c d
  · rintro i hi ρ kk ⟨c, d, rfl⟩ cont _
    have hi' : i < k := by rw [JS] at hi; exact hi
    have lt : i < os.length := by lia
    have om : os[i] < m := List.mem_range.mp (pm.mem_iff.mp (.tail _ (List.getElem_mem lt)))
    rw [QY]
    dsimp only [b_laid_1, wpSs, wpS, wpE, wpL, slotW, ownS, Rho.putL, frz, bindF, setD, setAll, bindT, F1.W, F2.W, F1.quiet, seqV, numW, isNon, Yx, Yu, Zu, Zt, YN, Zq, Zo, Zp, Za, ZM, YA, ZT, ZR, ZS, YM, Zl, ZY, ZX, ZH, ZG, YL, Zc, Zw, ZO, Yw, YB, Ys, ZP, ZQ, ZI, ZJ, Zd, Ze, Zm, Yt, Zn, Zk, ZK, ZZ, YE, YF, Zj, Zi, YG, YD, ZW, Zh, Zg, JA, YC, ZU, ZF, ZD, ZE, ZC, ZA, ZB, ZV, excIs, JN, YH, YI, Zf, Zr, YJ, YK, YZ, Ya, YQ, YR, YV, YW, Ym, Yn, Yb, Yc, Yi, Yj, YX, YY, Yd, Zy, Zz, JJ, JL, JM, JK, YU, Yo, Ye, Yf, YS, YT, YO, YP, Yy, Yz, Yk, Yl, Yp, Yq, JP, JO, Yh, Yg, Nat.reduceSub, Nat.reduceAdd, Zv, ZN, JB, Zb, Zs]
    rw [QO (Int.natCast_nonneg i) (by lia)]
    have e1 : (ofTups (os.map (ky l)))[(i : Int).toNat]? = some (.tuple [.int (0 - gd l os[i]), .int (os[i] : Nat)]) := by
      unfold ofTups
      rw [Int.toNat_natCast, List.getElem?_map, List.getElem?_map, List.getElem?_eq_getElem lt]; rfl
    rw [e1]
    refine (show got (idxV (.d (.tuple [.int (0 - gd l os[i]), .int (os[i] : Nat)])) 1) _ from WC ?_)
    dsimp only [wpSs, wpS, wpE, wpL, slotW, ownS, Rho.putL, frz, bindF, setD, setAll, bindT, F1.W, F2.W, F1.quiet, seqV, numW, isNon, Yx, Yu, Zu, Zt, YN, Zq, Zo, Zp, Za, ZM, YA, ZT, ZR, ZS, YM, Zl, ZY, ZX, ZH, ZG, YL, Zc, Zw, ZO, Yw, YB, Ys, ZP, ZQ, ZI, ZJ, Zd, Ze, Zm, Yt, Zn, Zk, ZK, ZZ, YE, YF, Zj, Zi, YG, YD, ZW, Zh, Zg, JA, YC, ZU, ZF, ZD, ZE, ZC, ZA, ZB, ZV, excIs, JN, YH, YI, Zf, Zr, YJ, YK, YZ, Ya, YQ, YR, YV, YW, Ym, Yn, Yb, Yc, Yi, Yj, YX, YY, Yd, Zy, Zz, JJ, JL, JM, JK, YU, Yo, Ye, Yf, YS, YT, YO, YP, Yy, Yz, Yk, Yl, Yp, Yq, JP, JO, Yh, Yg, Nat.reduceSub, Nat.reduceAdd, Zv, ZN, JB, Zb, Zs]
    refine Jk p os[i] ?_
    have tl : ((os.take i).map (tie p)).length ≤ 10 := by rw [List.length_map, List.length_take]; lia
    refine (show _ ∧ _ from ⟨by rw [Yr, List.length_append]; exact Yv (by lia), ?_⟩)
    have ll : ((os.take i).foldl dec1 l).length = m := by rw [XP, hl]
    refine Xc (cs := (os.take i).foldl dec1 l) (p := os[i]) (by rw [ll]; exact om) (by lia) ?_
    refine (show _ ∧ _ from ⟨⟨Int.natCast_nonneg _, by rw [JD, ll]; lia, JR (by lia)⟩, ?_⟩)
    refine cont _ ⟨some (.d (.int i)), some (.d (.int (os[i] : Nat))), ?_⟩
    rw [ZAa lt, List.foldl_append, List.map_append, ← List.append_assoc]
    have e2 : (ofInts ((os.take i).foldl dec1 l)).set ((os[i] : Nat) : Int).toNat (.int (gd ((os.take i).foldl dec1 l) os[i] - 1)) = ofInts (List.foldl dec1 ((os.take i).foldl dec1 l) [os[i]]) := by
      rw [Int.toNat_natCast, XH]; rfl
    show [_, some (V.own (.list (List.set _ _ _))), some (V.own (.list (ofPairs (T ++ (os.take i).map (tie p)) ++ [pr (tie p os[i])]))), _, _, _, _] = _
    rw [e2]
    rw [show ofPairs (T ++ (os.take i).map (tie p)) ++ [pr (tie p os[i])] = ofPairs (T ++ (os.take i).map (tie p) ++ [os[i]].map (tie p)) from JF (T ++ (os.take i).map (tie p)) [tie p os[i]]]
theorem HL {cs : List Int} {m : Nat} (hl : cs.length = m) (h0 : 0 < m) (hz : m ≤ 10) (L0 : Lay m cs cs []) (q : ∀ us : Ties, Web m us → Sd us → (∀ x, x < m → (cnt us x : Int) = gd cs x) → K (.own (.list (ofPairs us)))) : wpCall T06 (n + 2) false 12 [.d (.list (ofInts cs))] K X := by
  refine JC (fn := f_laid) rfl rfl (by decide) ?_
  dsimp only [f_laid, b_laid, wpSs, wpS, wpE, wpL, slotW, ownS, Rho.putL, frz, bindF, setD, setAll, bindT, F1.W, F2.W, F1.quiet, seqV, numW, isNon, Yx, Yu, Zu, Zt, YN, Zq, Zo, Zp, Za, ZM, YA, ZT, ZR, ZS, YM, Zl, ZY, ZX, ZH, ZG, YL, Zc, Zw, ZO, Yw, YB, Ys, ZP, ZQ, ZI, ZJ, Zd, Ze, Zm, Yt, Zn, Zk, ZK, ZZ, YE, YF, Zj, Zi, YG, YD, ZW, Zh, Zg, JA, YC, ZU, ZF, ZD, ZE, ZC, ZA, ZB, ZV, excIs, JN, YH, YI, Zf, Zr, YJ, YK, YZ, Ya, YQ, YR, YV, YW, Ym, Yn, Yb, Yc, Yi, Yj, YX, YY, Yd, Zy, Zz, JJ, JL, JM, JK, YU, Yo, Ye, Yf, YS, YT, YO, YP, Yy, Yz, Yk, Yl, Yp, Yq, JP, JO, Yh, Yg, Nat.reduceSub, Nat.reduceAdd, Zv, ZN, JB, Zb, Zs]
  refine ⟨by rw [JD]; exact Yv (by lia), ?_⟩
  refine ⟨(sm (List.range m) (gd cs)).toNat + 1, ZAn (fun j ρ => ∃ l T a b c d, ρ = ldR cs l T a b c d ∧ Lay m cs l T ∧ (sm (List.range m) (gd l)).toNat = j) ?_ _ _ _ (Nat.lt_succ_self _) ⟨cs, [], none, none, none, none, rfl, L0, rfl⟩⟩
  rintro j _ kk ⟨l, T, a, b, c, d, rfl, L, ej⟩ cont _
  have lm := L.len
  have ht := JT L.web hz
  obtain ⟨mx, e1, hmx, top⟩ := HR (l := l) fun e => by rw [e] at lm; simp only [List.length_nil] at lm; lia
  dsimp only [wpSs, wpS, wpE, wpL, slotW, ownS, Rho.putL, frz, bindF, setD, setAll, bindT, F1.W, F2.W, F1.quiet, seqV, numW, isNon, Yx, Yu, Zu, Zt, YN, Zq, Zo, Zp, Za, ZM, YA, ZT, ZR, ZS, YM, Zl, ZY, ZX, ZH, ZG, YL, Zc, Zw, ZO, Yw, YB, Ys, ZP, ZQ, ZI, ZJ, Zd, Ze, Zm, Yt, Zn, Zk, ZK, ZZ, YE, YF, Zj, Zi, YG, YD, ZW, Zh, Zg, JA, YC, ZU, ZF, ZD, ZE, ZC, ZA, ZB, ZV, excIs, JN, YH, YI, Zf, Zr, YJ, YK, YZ, Ya, YQ, YR, YV, YW, Ym, Yn, Yb, Yc, Yi, Yj, YX, YY, Yd, Zy, Zz, JJ, JL, JM, JK, YU, Yo, Ye, Yf, YS, YT, YO, YP, Yy, Yz, Yk, Yl, Yp, Yq, JP, JO, Yh, Yg, Nat.reduceSub, Nat.reduceAdd, Zv, ZN, JB, Zb, Zs]
  rw [Jd]
  show got (maxL l) _
  rw [e1]
  refine (show cond (decide (0 < mx)) _ _ from Ji (fun pos => ?_) fun npos => ?_)
  · obtain ⟨pl, eg⟩ := gd_idx hmx
    have hp : l.idxOf mx < m := by lia
    obtain ⟨p, ep⟩ : ∃ p, p = l.idxOf mx := ⟨_, rfl⟩
    rw [← ep] at hp eg pl
    have pos' : 0 < gd l p := by rw [eg]; exact pos
    obtain ⟨os, eo, pm, so⟩ := Hf (l := l) hp
    obtain ⟨kl, L', lt⟩ := L.turn hp pos' pm so
    have lo : os.length + 1 = m := by have := pm.length_eq; rw [List.length_cons, List.length_range] at this; exact this
    dsimp only [b_laid_3, wpSs, wpS, wpE, wpL, slotW, ownS, Rho.putL, frz, bindF, setD, setAll, bindT, F1.W, F2.W, F1.quiet, seqV, numW, isNon, Yx, Yu, Zu, Zt, YN, Zq, Zo, Zp, Za, ZM, YA, ZT, ZR, ZS, YM, Zl, ZY, ZX, ZH, ZG, YL, Zc, Zw, ZO, Yw, YB, Ys, ZP, ZQ, ZI, ZJ, Zd, Ze, Zm, Yt, Zn, Zk, ZK, ZZ, YE, YF, Zj, Zi, YG, YD, ZW, Zh, Zg, JA, YC, ZU, ZF, ZD, ZE, ZC, ZA, ZB, ZV, excIs, JN, YH, YI, Zf, Zr, YJ, YK, YZ, Ya, YQ, YR, YV, YW, Ym, Yn, Yb, Yc, Yi, Yj, YX, YY, Yd, Zy, Zz, JJ, JL, JM, JK, YU, Yo, Ye, Yf, YS, YT, YO, YP, Yy, Yz, Yk, Yl, Yp, Yq, JP, JO, Yh, Yg, Nat.reduceSub, Nat.reduceAdd, Zv, ZN, JB, Zb, Zs]
    rw [Jd]
    show got (maxL l) _
    rw [e1]
    refine (show _ ∧ _ from ⟨⟨hmx, Yv (by lia)⟩, ?_⟩)
    rw [← ep, JD, lm]
    refine (show _ ∧ _ ∧ _ ∧ _ from ⟨Yv (by lia), ⟨QA (by lia), JR (by lia)⟩, by rw [JS]; exact Yv (by lia), ?_⟩)
    refine Jy (kyP l p) _ _ (fun x hx kk' hk => ?_) ?_ ?_
    · obtain ⟨i, hi, rfl⟩ := List.mem_map.mp hx
      obtain ⟨i, hi', rfl⟩ := List.mem_map.mp hi
      have hi' : i < m := List.mem_range.mp hi'
      replace hk : kk' (cond (decide ((i : Int) = p)) none (some (.tuple [.int (0 - gd l i), .int i]))) := hk
      dsimp only [wpSs, wpS, wpE, wpL, slotW, ownS, Rho.putL, frz, bindF, setD, setAll, bindT, F1.W, F2.W, F1.quiet, seqV, numW, isNon, Yx, Yu, Zu, Zt, YN, Zq, Zo, Zp, Za, ZM, YA, ZT, ZR, ZS, YM, Zl, ZY, ZX, ZH, ZG, YL, Zc, Zw, ZO, Yw, YB, Ys, ZP, ZQ, ZI, ZJ, Zd, Ze, Zm, Yt, Zn, Zk, ZK, ZZ, YE, YF, Zj, Zi, YG, YD, ZW, Zh, Zg, JA, YC, ZU, ZF, ZD, ZE, ZC, ZA, ZB, ZV, excIs, JN, YH, YI, Zf, Zr, YJ, YK, YZ, Ya, YQ, YR, YV, YW, Ym, Yn, Yb, Yc, Yi, Yj, YX, YY, Yd, Zy, Zz, JJ, JL, JM, JK, YU, Yo, Ye, Yf, YS, YT, YO, YP, Yy, Yz, Yk, Yl, Yp, Yq, JP, JO, Yh, Yg, Nat.reduceSub, Nat.reduceAdd, Zv, ZN, JB, Zb, Zs]
      by_cases c : (i : Int) = p
      · rw [decide_eq_true c] at hk ⊢; exact hk
      · rw [decide_eq_false c] at hk ⊢
        exact Xc (by lia) (by lia) hk
    · rw [List.nil_append, WE]
      unfold ofTups
      rw [List.length_map, List.length_map]
      exact Yv (Nat.lt_of_le_of_lt (List.length_filter_le ..) (by rw [List.length_range]; lia))
    · rw [List.nil_append, WE]
      have nd : (((List.range m).filter fun i => decide (i ≠ p)).map (ky l)).Nodup := List.Pairwise.map _ (fun a b ne q => ne (ky_inj q)) (List.nodup_range.filter _)
      have ll : (((List.range m).filter fun i => decide (i ≠ p)).map (ky l)).length = os.length := by
        have q := congrArg List.length eo
        unfold sortT at q
        rw [List.length_mergeSort] at q
        rw [q, List.length_map]
      have no : [] ∉ (((List.range m).filter fun i => decide (i ≠ p)).map (ky l)) := fun q => by obtain ⟨_, _, e⟩ := List.mem_map.mp q; exact nomatch e
      generalize ((List.range m).filter fun i => decide (i ≠ p)).map (ky l) = ots at *
      show Option.elim (allOf intOf (ofTups ots)) _ _
      have en : allOf intOf (ofTups ots) = none := by
        cases ots with
        | nil => simp only [List.length_nil] at ll; lia
        | cons a r => rfl
      rw [en]
      show got (allOf tupOf (ofTups ots)) _
      rw [WZ]
      refine (show _ ∧ _ from ⟨⟨by lia, nd, no⟩, ?_⟩)
      rw [eo]
      refine Xc (by lia) (by lia) ?_
      obtain ⟨k, hk⟩ : ∃ k : Nat, gd l p = k := ⟨_, (Int.toNat_of_nonneg (Int.le_of_lt pos')).symm⟩
      have hk' : (gd l p).toNat = k := by rw [hk]; rfl
      rw [hk'] at kl L' lt
      rw [show l.getD p 0 = (k : Int) from hk]
      dsimp only [wpSs, wpS, wpE, wpL, slotW, ownS, Rho.putL, frz, bindF, setD, setAll, bindT, F1.W, F2.W, F1.quiet, seqV, numW, isNon, Yx, Yu, Zu, Zt, YN, Zq, Zo, Zp, Za, ZM, YA, ZT, ZR, ZS, YM, Zl, ZY, ZX, ZH, ZG, YL, Zc, Zw, ZO, Yw, YB, Ys, ZP, ZQ, ZI, ZJ, Zd, Ze, Zm, Yt, Zn, Zk, ZK, ZZ, YE, YF, Zj, Zi, YG, YD, ZW, Zh, Zg, JA, YC, ZU, ZF, ZD, ZE, ZC, ZA, ZB, ZV, excIs, JN, YH, YI, Zf, Zr, YJ, YK, YZ, Ya, YQ, YR, YV, YW, Ym, Yn, Yb, Yc, Yi, Yj, YX, YY, Yd, Zy, Zz, JJ, JL, JM, JK, YU, Yo, Ye, Yf, YS, YT, YO, YP, Yy, Yz, Yk, Yl, Yp, Yq, JP, JO, Yh, Yg, Nat.reduceSub, Nat.reduceAdd, Zv, ZN, JB, Zb, Zs]
      refine ⟨⟨QA (by lia), JR (by lia)⟩, by rw [JS]; exact Yv (by lia), HM hz lm ht hp pm kl fun c d => ?_⟩
      dsimp only [b_laid_2, wpSs, wpS, wpE, wpL, slotW, ownS, Rho.putL, frz, bindF, setD, setAll, bindT, F1.W, F2.W, F1.quiet, seqV, numW, isNon, Yx, Yu, Zu, Zt, YN, Zq, Zo, Zp, Za, ZM, YA, ZT, ZR, ZS, YM, Zl, ZY, ZX, ZH, ZG, YL, Zc, Zw, ZO, Yw, YB, Ys, ZP, ZQ, ZI, ZJ, Zd, Ze, Zm, Yt, Zn, Zk, ZK, ZZ, YE, YF, Zj, Zi, YG, YD, ZW, Zh, Zg, JA, YC, ZU, ZF, ZD, ZE, ZC, ZA, ZB, ZV, excIs, JN, YH, YI, Zf, Zr, YJ, YK, YZ, Ya, YQ, YR, YV, YW, Ym, Yn, Yb, Yc, Yi, Yj, YX, YY, Yd, Zy, Zz, JJ, JL, JM, JK, YU, Yo, Ye, Yf, YS, YT, YO, YP, Yy, Yz, Yk, Yl, Yp, Yq, JP, JO, Yh, Yg, Nat.reduceSub, Nat.reduceAdd, Zv, ZN, JB, Zb, Zs]
      refine ⟨⟨Int.natCast_nonneg _, by rw [JD, XP, lm]; lia, JR (by lia)⟩, ?_⟩
      rw [Int.toNat_natCast, XH]
      have n0 := Jh (P := List.range m) (f := gd (((os.take k).foldl dec1 l).set p 0)) fun i hi => L'.nonneg (List.mem_range.mp hi)
      exact cont _ _ (by lia) ⟨_, _, _, _, _, _, rfl, L', rfl⟩
  · refine Ja (v := .brw (.list (ofPairs T))) rfl L.web.1 (by lia) fun us p sd => ?_
    refine q us (Qh p L.web) sd fun x hx => ?_
    rw [Jq p x]
    exact L.done (fun y hy => Int.le_trans (top _ (ZEm (by lia))) (by lia)) x hx
end
end TC

namespace TC
open PySem
theorem ge_tr (cs : List Int) (a b c : Nat) (h1 : decide (gd cs b ≤ gd cs a) = true) (h2 : decide (gd cs c ≤ gd cs b) = true) : decide (gd cs c ≤ gd cs a) = true := decide_eq_true (Int.le_trans (of_decide_eq_true h2) (of_decide_eq_true h1))
theorem ZEo (cs : List Int) (a b : Nat) : (decide (gd cs b ≤ gd cs a) || decide (gd cs a ≤ gd cs b)) = true := by
  rw [Bool.or_eq_true, decide_eq_true_iff, decide_eq_true_iff]; exact Int.le_total ..
theorem ZEs (cs : List Int) : (List.range cs.length).map (gd cs) = cs := by
  refine List.ext_getElem (by rw [List.length_map, List.length_range]) fun i h1 h2 => ?_
  rw [List.getElem_map, List.getElem_range]
  show cs.getD i 0 = _
  rw [List.getD_eq_getElem?_getD, List.getElem?_eq_getElem h2]; rfl
theorem WM (cs : List Int) : ∃ ps : List Nat, ps.Perm (List.range cs.length) ∧ (ps.Pairwise fun i j => gd cs j ≤ gd cs i) ∧ rowOf cs = ps.map (gd cs) := by
  refine ⟨(List.range cs.length).mergeSort (fun i j => decide (gd cs j ≤ gd cs i)), List.mergeSort_perm _ _, (List.pairwise_mergeSort (ge_tr cs) (ZEo cs) _).imp of_decide_eq_true, ?_⟩
  have p1 : (rowOf cs).Perm cs := (List.reverse_perm _).trans (List.mergeSort_perm _ _)
  have p2 : (((List.range cs.length).mergeSort (fun i j => decide (gd cs j ≤ gd cs i))).map (gd cs)).Perm cs := by
    have := (List.mergeSort_perm (List.range cs.length) (fun i j => decide (gd cs j ≤ gd cs i))).map (gd cs)
    rw [ZEs] at this; exact this
  refine List.Perm.eq_of_pairwise (le := fun a b : Int => b ≤ a) (fun x y _ _ p q => Int.le_antisymm q p) ?_ ?_ (p1.trans p2.symm)
  · unfold rowOf
    rw [List.pairwise_reverse]
    exact (List.pairwise_mergeSort (le := fun a b : Int => decide (a ≤ b)) (fun a b c h1 h2 => decide_eq_true (Int.le_trans (of_decide_eq_true h1) (of_decide_eq_true h2))) (fun a b => by rw [Bool.or_eq_true, decide_eq_true_iff, decide_eq_true_iff]; exact Int.le_total ..) _).imp of_decide_eq_true
  · rw [List.pairwise_map]
    exact (List.pairwise_mergeSort (ge_tr cs) (ZEo cs) _).imp of_decide_eq_true
theorem ZAi {cs : List Int} {ps : List Nat} (e : rowOf cs = ps.map (gd cs)) (k : Nat) : wantS cs k = sm (ps.take k) (gd cs) ∧ mostS cs k = (k : Int) * (k - 1) + sm (ps.drop k) (fun i => min (gd cs i) k) := by
  unfold wantS mostS sm
  rw [e, ← List.map_take, ← List.map_drop, List.map_map]
  exact ⟨rfl, rfl⟩
theorem Gm {cs : List Int} (h0 : ∀ i, 0 ≤ gd cs i) (h : ∀ k, k ≤ cs.length → wantS cs k ≤ mostS cs k) : EG (List.range cs.length) (gd cs) := by
  obtain ⟨ps, pm, so, e⟩ := WM cs
  refine Wn h0 pm so fun k hk => ?_
  obtain ⟨e1, e2⟩ := ZAi e k
  rw [← e1, ← e2]; exact h k hk
theorem Gx {m : Nat} {ts : Ties} {i : Nat} (h : i < m) : gd (ctL m ts) i = cnt ts i := by
  show (ctL m ts).getD i 0 = _
  unfold ctL
  rw [List.getD_eq_getElem?_getD, List.getElem?_map, List.getElem?_range h]; rfl
theorem Xr (m : Nat) (ts : Ties) : (ctL m ts).length = m := by unfold ctL; rw [List.length_map, List.length_range]
theorem GG {m : Nat} {ts : Ties} (w : Web m ts) (k : Nat) (hk : k ≤ m) : wantS (ctL m ts) k ≤ mostS (ctL m ts) k := by
  obtain ⟨ps, pm, so, e⟩ := WM (ctL m ts)
  rw [Xr] at pm
  obtain ⟨e1, e2⟩ := ZAi e k
  rw [e1, e2]
  have lt : ∀ i ∈ ps, i < m := fun i hi => List.mem_range.mp (pm.mem_iff.mp hi)
  rw [JG (g := fun i => (cnt ts i : Int)) fun i hi => Gx (lt i (List.mem_of_mem_take hi)), JG (P := ps.drop k) (g := fun i => min (cnt ts i : Int) k) fun i hi => by rw [Gx (lt i (List.mem_of_mem_drop hi))]]
  exact Ui w pm k hk
theorem GO {m : Nat} {ts : Ties} (w : Web m ts) : (ctL m ts).sum = 2 * (ts.length : Int) := by
  have := XO w
  rw [← this, ← Hs, Xr]
  exact JG fun i hi => Gx (List.mem_range.mp hi)
theorem ct_of {m : Nat} {us : Ties} {cs : List Int} (hl : cs.length = m) (h : ∀ x, x < m → (cnt us x : Int) = gd cs x) : ctL m us = cs := by
  have : (List.range m).map (fun p => (cnt us p : Int)) = (List.range cs.length).map (gd cs) := by
    rw [hl]; exact List.map_congr_left fun x hx => h x (List.mem_range.mp hx)
  rw [ZEs] at this
  exact this
structure GC (cs : List Int) : Prop where
  pos : 0 < cs.length
  le : cs.length ≤ 10
  rng : ∀ c ∈ cs, 0 ≤ c ∧ c ≤ 20
theorem GC.ok {cs : List Int} (g : GC cs) : cntsB (.list (ofInts cs)) = true := by
  have h1 := g.pos
  have h2 := g.le
  show (decide (1 ≤ (ofInts cs).length) && decide ((ofInts cs).length ≤ 10) && (ofInts cs).all fun x => amongB x 0 20) = true
  rw [JD, decide_eq_true (show 1 ≤ cs.length by lia), decide_eq_true (show cs.length ≤ 10 by lia)]
  show ((ofInts cs).all fun x => amongB x 0 20) = true
  refine List.all_eq_true.mpr fun x hx => ?_
  obtain ⟨i, hi, rfl⟩ := List.mem_map.mp hx
  have := g.rng i hi
  show (decide (0 ≤ i) && decide (i ≤ 20)) = true
  rw [decide_eq_true this.1, decide_eq_true this.2]; rfl
theorem GC.nonneg {cs : List Int} (g : GC cs) (i : Nat) : 0 ≤ gd cs i := by
  by_cases h : i < cs.length
  · exact (g.rng _ (ZEm h)).1
  · show 0 ≤ cs.getD i 0
    rw [List.getD_eq_getElem?_getD, List.getElem?_eq_none (Nat.le_of_not_lt h)]; exact Int.le_refl _
noncomputable def badAt (cs : List Int) (k : Nat) : Bool := decide (mostS cs k < wantS cs k)
noncomputable def toldK (cs : List Int) : Option (List PyData) := cond (decide (cs.sum.fmod 2 = 1)) (some [.str "odd"]) (((List.range (cs.length + 1)).find? (badAt cs)).map fun (k : Nat) => [.str "many", .int (k : Int)])
theorem ZAd {m : Nat} {ts : Ties} (w : Web m ts) : toldK (ctL m ts) = none := by
  unfold toldK
  have ev : ¬ (ctL m ts).sum.fmod 2 = 1 := by
    rw [GO w, Int.mul_comm, Int.mul_fmod_left]; decide
  rw [decide_eq_false ev, Xr]
  have : (List.range (m + 1)).find? (badAt (ctL m ts)) = none := List.find?_eq_none.mpr fun k hk => by
    have := GG w k (by have := List.mem_range.mp hk; lia)
    unfold badAt
    rw [decide_eq_true_iff]; lia
  rw [this]; rfl
theorem lay_of {cs : List Int} (g : GC cs) (ev : ¬ cs.sum.fmod 2 = 1) (h : ∀ k, k < cs.length + 1 → badAt cs k = false) : Lay cs.length cs cs [] := by
  refine Lay.start rfl (Gm g.nonneg fun k hk => ?_) (w := cs.sum.fdiv 2) ?_
  · have := h k (by lia)
    unfold badAt at this
    have := of_decide_eq_false this
    lia
  · rw [Hs]
    have h1 := Int.mul_fdiv_add_fmod cs.sum 2
    have h2 := fmod_nonneg' (a := cs.sum) (b := 2) (by decide)
    have h3 := fmod_lt' (a := cs.sum) (b := 2) (by decide)
    lia
section
variable {n : Nat} {hm : Bool} {K : V → Prop} {X : Nat → Prop}
theorem ZAe {cs : List Int} (g : GC cs) (k1 : ∀ t, toldK cs = some t → K (.d (.tuple t)))
    (k2 : toldK cs = none → ∀ us : Ties, Web cs.length us → Sd us → ctL cs.length us = cs → K (.d (.tuple [.str "web", .list (ofPairs us)])))
    : wpCall T06 (n + 3) false 13 [.d (.list (ofInts cs))] K X := by
  have h1 := g.pos
  have h2 := g.le
  have l1 : (ofInts cs).length < lim := by rw [JD]; exact Yv (by lia)
  refine JC (fn := f_told) rfl rfl (by decide) ?_
  dsimp only [f_told, b_told, wpSs, wpS, wpE, wpL, slotW, ownS, Rho.putL, frz, bindF, setD, setAll, bindT, F1.W, F2.W, F1.quiet, seqV, numW, isNon, Yx, Yu, Zu, Zt, YN, Zq, Zo, Zp, Za, ZM, YA, ZT, ZR, ZS, YM, Zl, ZY, ZX, ZH, ZG, YL, Zc, Zw, ZO, Yw, YB, Ys, ZP, ZQ, ZI, ZJ, Zd, Ze, Zm, Yt, Zn, Zk, ZK, ZZ, YE, YF, Zj, Zi, YG, YD, ZW, Zh, Zg, JA, YC, ZU, ZF, ZD, ZE, ZC, ZA, ZB, ZV, excIs, JN, YH, YI, Zf, Zr, YJ, YK, YZ, Ya, YQ, YR, YV, YW, Ym, Yn, Yb, Yc, Yi, Yj, YX, YY, Yd, Zy, Zz, JJ, JL, JM, JK, YU, Yo, Ye, Yf, YS, YT, YO, YP, Yy, Yz, Yk, Yl, Yp, Yq, JP, JO, Yh, Yg, Nat.reduceSub, Nat.reduceAdd, Zv, ZN, JB, Zb, Zs]
  refine Wx (.list (ofInts cs)) (show (ofInts cs).length < 1000 by rw [JD]; lia) (fun _ => ?_) fun e => by rw [g.ok] at e; exact nomatch e
  rw [Jd]
  unfold toldK at k1 k2
  refine (show _ ∧ _ from ⟨by decide, Ji (fun od => k1 _ (by rw [decide_eq_true od]; rfl)) fun ev => ?_⟩)
  rw [decide_eq_false ev] at k1 k2
  rw [JD]
  have er : ((cs.length : Int) + 1) = ((cs.length + 1 : Nat) : Int) := by lia
  rw [er]
  refine ⟨Yv (by lia), ⟨QA (by lia), JR (by lia)⟩, by rw [JS]; exact Yv (by lia), ?_⟩
  refine Jz _ (fun i ρ => ∃ a b c, ρ = [some (.d (.list (ofInts cs))), a, b, c] ∧ ∀ j, j < i → badAt cs j = false) ?_ ?_ _ ⟨none, none, none, rfl, nofun⟩
  · rintro ρ ⟨a, b, c, rfl, no⟩
    rw [JS] at no
    dsimp only [b_told_2, wpSs, wpS, wpE, wpL, slotW, ownS, Rho.putL, frz, bindF, setD, setAll, bindT, F1.W, F2.W, F1.quiet, seqV, numW, isNon, Yx, Yu, Zu, Zt, YN, Zq, Zo, Zp, Za, ZM, YA, ZT, ZR, ZS, YM, Zl, ZY, ZX, ZH, ZG, YL, Zc, Zw, ZO, Yw, YB, Ys, ZP, ZQ, ZI, ZJ, Zd, Ze, Zm, Yt, Zn, Zk, ZK, ZZ, YE, YF, Zj, Zi, YG, YD, ZW, Zh, Zg, JA, YC, ZU, ZF, ZD, ZE, ZC, ZA, ZB, ZV, excIs, JN, YH, YI, Zf, Zr, YJ, YK, YZ, Ya, YQ, YR, YV, YW, Ym, Yn, Yb, Yc, Yi, Yj, YX, YY, Yd, Zy, Zz, JJ, JL, JM, JK, YU, Yo, Ye, Yf, YS, YT, YO, YP, Yy, Yz, Yk, Yl, Yp, Yq, JP, JO, Yh, Yg, Nat.reduceSub, Nat.reduceAdd, Zv, ZN, JB, Zb, Zs]
    refine HL rfl h1 h2 (lay_of g ev no) fun us w sd ct => ?_
    refine k2 ?_ us w sd (ct_of rfl ct)
    show Option.map _ ((List.range (cs.length + 1)).find? (badAt cs)) = none
    rw [List.find?_eq_none.mpr fun k hk => by rw [no k (List.mem_range.mp hk)]; decide]; rfl
  · rintro i hi ρ kk ⟨a, b, c, rfl, no⟩ cont ret
    have hi' : i < cs.length + 1 := by rw [JS] at hi; exact hi
    rw [QY]
    dsimp only [b_told_1, wpSs, wpS, wpE, wpL, slotW, ownS, Rho.putL, frz, bindF, setD, setAll, bindT, F1.W, F2.W, F1.quiet, seqV, numW, isNon, Yx, Yu, Zu, Zt, YN, Zq, Zo, Zp, Za, ZM, YA, ZT, ZR, ZS, YM, Zl, ZY, ZX, ZH, ZG, YL, Zc, Zw, ZO, Yw, YB, Ys, ZP, ZQ, ZI, ZJ, Zd, Ze, Zm, Yt, Zn, Zk, ZK, ZZ, YE, YF, Zj, Zi, YG, YD, ZW, Zh, Zg, JA, YC, ZU, ZF, ZD, ZE, ZC, ZA, ZB, ZV, excIs, JN, YH, YI, Zf, Zr, YJ, YK, YZ, Ya, YQ, YR, YV, YW, Ym, Yn, Yb, Yc, Yi, Yj, YX, YY, Yd, Zy, Zz, JJ, JL, JM, JK, YU, Yo, Ye, Yf, YS, YT, YO, YP, Yy, Yz, Yk, Yl, Yp, Yq, JP, JO, Yh, Yg, Nat.reduceSub, Nat.reduceAdd, Zv, ZN, JB, Zb, Zs]
    refine ZAj cs h2 i (by lia) ?_
    dsimp only [wpSs, wpS, wpE, wpL, slotW, ownS, Rho.putL, frz, bindF, setD, setAll, bindT, F1.W, F2.W, F1.quiet, seqV, numW, isNon, Yx, Yu, Zu, Zt, YN, Zq, Zo, Zp, Za, ZM, YA, ZT, ZR, ZS, YM, Zl, ZY, ZX, ZH, ZG, YL, Zc, Zw, ZO, Yw, YB, Ys, ZP, ZQ, ZI, ZJ, Zd, Ze, Zm, Yt, Zn, Zk, ZK, ZZ, YE, YF, Zj, Zi, YG, YD, ZW, Zh, Zg, JA, YC, ZU, ZF, ZD, ZE, ZC, ZA, ZB, ZV, excIs, JN, YH, YI, Zf, Zr, YJ, YK, YZ, Ya, YQ, YR, YV, YW, Ym, Yn, Yb, Yc, Yi, Yj, YX, YY, Yd, Zy, Zz, JJ, JL, JM, JK, YU, Yo, Ye, Yf, YS, YT, YO, YP, Yy, Yz, Yk, Yl, Yp, Yq, JP, JO, Yh, Yg, Nat.reduceSub, Nat.reduceAdd, Zv, ZN, JB, Zb, Zs]
    refine Ji (fun bad => ?_) fun ok => ?_
    · refine ret _ _ (k1 _ ?_)
      show Option.map _ ((List.range (cs.length + 1)).find? (badAt cs)) = _
      have : (List.range (cs.length + 1)).find? (badAt cs) = some i := by
        rw [List.find?_range_eq_some]
        exact ⟨decide_eq_true bad, List.mem_range.mpr hi', fun j hj => by rw [no j hj]; rfl⟩
      rw [this]; rfl
    · exact cont _ ⟨_, _, _, rfl, fun j hj => by
        by_cases c : j < i
        · exact no j c
        · obtain rfl : j = i := by lia
          exact decide_eq_false ok⟩
end
end TC

namespace TC

noncomputable def dif (ts us : Ties) : Nat := ts.countP fun t => decide (t ∉ us)
theorem Ut {ts us : Ties} (a : ts.Nodup) (b : us.Nodup) (l : ts.length = us.length) : dif ts us = dif us ts := by
  have h : ∀ xs ys : Ties, dif xs ys + xs.countP (fun t => decide (t ∈ ys)) = xs.length := fun xs ys => by
    unfold dif
    have := List.length_eq_countP_add_countP (p := fun t => decide (t ∈ ys)) (l := xs)
    rw [this, Nat.add_comm]
    congr 1
    exact List.countP_congr fun t _ => by simp
  have e : ts.countP (fun t => decide (t ∈ us)) = us.countP (fun t => decide (t ∈ ts)) := by
    rw [List.countP_eq_length_filter, List.countP_eq_length_filter]
    refine List.Perm.length_eq ((List.perm_ext_iff_of_nodup (a.filter _) (b.filter _)).mpr fun t => ?_)
    rw [List.mem_filter, List.mem_filter, decide_eq_true_iff, decide_eq_true_iff, and_comm]
  have h1 := h ts us
  have h2 := h us ts
  lia
theorem Gq {m : Nat} {ts : Ties} {r : Row} (w : Web m ts) (f : Fit m ts r) : ts.Perm (ts.filter r.out ++ [tie r.a r.b, tie r.c r.d]) := by
  obtain ⟨n1, n2, n3, n4, n5, n6⟩ := f.ne
  have ne : tie r.a r.b ≠ tie r.c r.d := fun q => (QE q).elim (fun q => n2 q.1) fun q => n3 q.1
  refine (List.perm_ext_iff_of_nodup w.1 (List.nodup_append.mpr ⟨w.1.filter _, List.nodup_cons.mpr ⟨fun q => ne (List.mem_singleton.mp q), List.pairwise_singleton _ _⟩, fun a ha b hb e => ?_⟩)).mpr fun t => ?_
  · have h := (List.mem_filter.mp ha).2
    unfold Row.out at h
    have h := of_decide_eq_true h
    rcases List.mem_cons.mp hb with q | q
    · exact h.1 (e.trans q)
    · exact h.2 (e.trans (List.mem_singleton.mp q))
  · rw [List.mem_append, List.mem_filter, List.mem_cons, List.mem_singleton]
    unfold Row.out
    rw [decide_eq_true_iff]
    constructor
    · intro h
      by_cases c1 : t = tie r.a r.b
      · exact .inr (.inl c1)
      · by_cases c2 : t = tie r.c r.d
        · exact .inr (.inr c2)
        · exact .inl ⟨h, c1, c2⟩
    · rintro (h | rfl | rfl)
      · exact h.1
      · exact f.in1
      · exact f.in2
theorem Qd {ts ts' us us' : Ties} (p : ts.Perm ts') (q : us.Perm us') : dif ts us = dif ts' us' := by
  unfold dif
  rw [p.countP_eq]
  exact List.countP_congr fun t _ => by rw [decide_eq_true_iff, decide_eq_true_iff, q.mem_iff]
theorem Fit.dif {m : Nat} {ts us : Ties} {r : Row} (w : Web m ts) (f : Fit m ts r) (h1 : tie r.a r.b ∉ us) (h2 : tie r.a r.c ∈ us) (h3 : tie r.b r.d ∈ us ∨ tie r.c r.d ∉ us) : dif (exch ts r) us < TC.dif ts us := by
  rw [Qd (Gq w f) (List.Perm.refl us)]
  unfold TC.dif exch
  rw [List.countP_append, List.countP_append, List.countP_cons, List.countP_cons, List.countP_cons, List.countP_cons, List.countP_nil]
  rw [decide_eq_true h1, decide_eq_false (fun q => q h2 : ¬ (tie r.a r.c ∉ us))]
  rcases h3 with h | h
  · rw [decide_eq_false (fun q => q h : ¬ (tie r.b r.d ∉ us))]
    simp
  · rw [decide_eq_true h]
    by_cases g : tie r.b r.d ∈ us <;> simp [g] <;> lia
noncomputable def Row.back (r : Row) : Row := ⟨r.a, r.c, r.b, r.d⟩
theorem Fit.back {m : Nat} {ts : Ties} {r : Row} (w : Web m ts) (f : Fit m ts r) : Fit m (exch ts r) r.back := by
  obtain ⟨n1, n2, n3, n4, n5, n6⟩ := f.ne
  obtain ⟨l1, l2, l3, l4⟩ := f.lt
  refine ⟨⟨l1, l3, l2, l4⟩, ?_, QM.mpr (.inr (.inl rfl)), QM.mpr (.inr (.inr rfl)), fun q => ?_, fun q => ?_⟩
  · simp only [Row.back, List.nodup_cons, List.mem_cons, List.not_mem_nil, or_false, not_or, not_false_eq_true, List.nodup_nil, and_true]
    exact ⟨⟨n2, n1, n3⟩, ⟨n4.symm, n6⟩, n5⟩
  · rcases QM.mp q with q | q | q
    · exact q.2.1 rfl
    · rcases QE q with q | q
      · exact n4 q.2
      · exact n2 q.1
    · rcases QE q with q | q
      · exact n1 q.1
      · exact n3 q.1
  · rcases QM.mp q with q | q | q
    · exact q.2.2 rfl
    · rcases QE q with q | q
      · exact n2 q.1.symm
      · exact n3 q.2.symm
    · rcases QE q with q | q
      · exact n4 q.1.symm
      · exact n5 q.2.symm
theorem Gp {m : Nat} {ts : Ties} {r : Row} (w : Web m ts) (f : Fit m ts r) : (exch (exch ts r) r.back).Perm ts := by
  have w1 := f.web w
  have f1 := f.back w
  refine (List.perm_ext_iff_of_nodup (f1.web w1).1 w.1).mpr fun t => ?_
  rw [QM, QM]
  show ((_ ∨ t = tie r.a r.c ∨ t = tie r.b r.d) ∧ t ≠ tie r.a r.c ∧ t ≠ tie r.b r.d) ∨ t = tie r.a r.b ∨ t = tie r.c r.d ↔ _
  constructor
  · rintro (⟨h | h | h, n1, n2⟩ | h | h)
    · exact h.1
    · exact absurd h n1
    · exact absurd h n2
    · rw [h]; exact f.in1
    · rw [h]; exact f.in2
  · intro h
    by_cases c1 : t = tie r.a r.b
    · exact .inr (.inl c1)
    · by_cases c2 : t = tie r.c r.d
      · exact .inr (.inr c2)
      · exact .inl ⟨.inl ⟨h, c1, c2⟩, fun q => f.out1 (q ▸ h), fun q => f.out2 (q ▸ h)⟩
inductive Led (m : Nat) : Ties → List Row → Ties → Prop
  | nil {ts us : Ties} : ts.Perm us → Led m ts [] us
  | cons {ts us : Ties} {r : Row} {rs : List Row} : Fit m ts r → Led m (exch ts r) rs us → Led m ts (r :: rs) us
theorem Vj {ts us : Ties} (p : us.Perm ts) (r : Row) : (exch us r).Perm (exch ts r) := (p.filter _).append_right _
theorem Led.perm {m : Nat} {ts us : Ties} {rs : List Row} (l : Led m ts rs us) : ∀ {ts' : Ties}, ts'.Perm ts → Led m ts' rs us := by
  induction l with
  | nil p => exact fun q => .nil (q.trans p)
  | cons f _ ih => exact fun q => .cons (f.mem fun t => q.mem_iff) (ih (Vj q _))
section
variable {n : Nat} {A B : Ties}
noncomputable def gain (A B : Ties) (v x : Nat) : Int := bi (hs B v x && !hs A v x)
theorem VE (wa : Web n A) (wb : Web n B) {v : Nat} (e : cnt A v = cnt B v) : sm (List.range n) (gain A B v) = sm (List.range n) (gain B A v) := by
  have : sm (List.range n) (fun x => gain A B v x - gain B A v x) = sm (List.range n) (fun x => bi (hs B v x) - bi (hs A v x)) := JG fun x _ => by
    unfold gain; cases hs A v x <;> cases hs B v x <;> rfl
  rw [Jp, Jp, ← Vf wa, ← Vf wb, e] at this
  lia
theorem Gw (wa : Web n A) (wb : Web n B) {p m t : Nat} (hp : p < n) (hm : m < n) (ht : t < n) (pm : p ≠ m) (pt : p ≠ t) (mt : m ≠ t) (g : gain A B t p = 1) (g0 : gain A B m p = 0)
    (imp : ∀ x, x < n → x ≠ p → x ≠ m → x ≠ t → (hs B m x && !hs A m x) = true → (hs B t x && !hs A t x) = true) : sm (List.range n) (gain A B m) + 1 ≤ sm (List.range n) (gain A B t) := by
  have nr : (List.range n).Nodup := List.nodup_range
  have self : ∀ v, gain A B v v = 0 := fun v => by unfold gain; rw [wb.hs_self]; rfl
  have sy : gain A B m t = gain A B t m := by unfold gain; rw [QJ, QJ A]
  let f1 := upd (gain A B m) m (gain A B m t)
  let f2 := upd f1 t (gain A B m m)
  let f3 := upd f2 p 1
  have s1 : sm (List.range n) f1 = _ := Ju nr (List.mem_range.mpr hm) (f := gain A B m) fun j _ ne => JZ _ _ ne
  have s2 : sm (List.range n) f2 = _ := Ju nr (List.mem_range.mpr ht) (f := f1) fun j _ ne => JZ _ _ ne
  have s3 : sm (List.range n) f3 = _ := Ju nr (List.mem_range.mpr hp) (f := f2) fun j _ ne => JZ _ _ ne
  have v1 : f1 m = gain A B m t := Jv ..
  have v2 : f2 t = gain A B m m := Jv ..
  have v2' : f1 t = gain A B m t := JZ _ _ mt.symm
  have v3 : f3 p = 1 := Jv ..
  have v3' : f2 p = 0 := by
    show upd f1 t _ p = 0
    rw [JZ _ _ pt]
    show upd _ m _ p = 0
    rw [JZ _ _ pm, g0]
  have le : sm (List.range n) f3 ≤ sm (List.range n) (gain A B t) := Qj fun x hx => by
    show upd f2 p 1 x ≤ _
    by_cases e1 : x = p
    · subst e1; rw [Jv, g]; exact Int.le_refl _
    rw [JZ _ _ e1]
    show upd f1 t _ x ≤ _
    by_cases e2 : x = t
    · subst e2; rw [Jv, self, self]; exact Int.le_refl _
    rw [JZ _ _ e2]
    show upd _ m _ x ≤ _
    by_cases e3 : x = m
    · subst e3; rw [Jv, sy]; exact Int.le_refl _
    rw [JZ _ _ e3]
    unfold gain
    cases e : (hs B m x && !hs A m x) with
    | false => exact (Wb _).1
    | true => rw [imp x (List.mem_range.mp hx) e1 e3 e2 e]; exact Int.le_refl _
  have := self m
  lia
theorem ZFo (wa : Web n A) (wb : Web n B) {p m t : Nat} (hp : p < n) (hm : m < n) (ht : t < n) (em : cnt A m = cnt B m) (et : cnt A t = cnt B t)
    (a1 : hs A p m = true) (b1 : hs B p m = false) (b2 : hs B p t = true) (a2 : hs A p t = false) :
    ∃ l, l < n ∧ l ≠ p ∧ l ≠ m ∧ l ≠ t ∧ ((hs B m l && !hs A m l || hs A t l && !hs B t l) = true) ∧ ((hs A t l && !hs A m l) = true ∨ (hs B m l && !hs B t l) = true) := by
  have pm : p ≠ m := fun e => by subst e; rw [wa.hs_self] at a1; cases a1
  have pt : p ≠ t := fun e => by subst e; rw [wb.hs_self] at b2; cases b2
  have mt : m ≠ t := fun e => by subst e; rw [a1] at a2; cases a2
  refine Classical.byContradiction fun no => ?_
  have no : ∀ l, l < n → l ≠ p → l ≠ m → l ≠ t → (hs B m l && !hs A m l || hs A t l && !hs B t l) = true → (hs A t l && !hs A m l) = false ∧ (hs B m l && !hs B t l) = false := fun l h1 h2 h3 h4 h5 => by
    constructor <;> refine Bool.eq_false_iff.mpr fun q => no ⟨l, h1, h2, h3, h4, h5, ?_⟩
    · exact .inl q
    · exact .inr q
  have c1 := Gw wa wb hp hm ht pm pt mt (by unfold gain; rw [QJ B, QJ A, b2, a2]; rfl) (by unfold gain; rw [QJ B, b1]; rfl) fun x h1 h2 h3 h4 h5 => by
    have := no x h1 h2 h3 h4 (by rw [h5]; rfl)
    revert h5 this
    cases hs B m x <;> cases hs A m x <;> cases hs A t x <;> cases hs B t x <;> decide
  have c2 := Gw wb wa hp ht hm pt pm mt.symm (by unfold gain; rw [QJ B, QJ A, b1, a1]; rfl) (by unfold gain; rw [QJ A, a2]; rfl) fun x h1 h2 h3 h4 h5 => by
    have := no x h1 h2 h4 h3 (by rw [h5, Bool.or_true])
    revert h5 this
    cases hs B m x <;> cases hs A m x <;> cases hs A t x <;> cases hs B t x <;> decide
  have b1 := VE wa wb em
  have b2 := VE wa wb et
  lia
theorem ZGb (wa : Web n A) (wb : Web n B) (e : ∀ v, v < n → cnt A v = cnt B v) (h : ∀ p, p < n → (∀ m, m < n → (hs A p m && !hs B p m) = false) ∨ ∀ t, t < n → (hs B p t && !hs A p t) = false) : A.Perm B := by
  have z : ∀ p, p < n → ∀ x, x < n → hs A p x = hs B p x := fun p hp => by
    have b := VE wa wb (e p hp)
    have zero : ∀ {C D : Ties}, (∀ x, x < n → (hs D p x && !hs C p x) = false) → sm (List.range n) (gain C D p) = 0 := fun q => by
      rw [← XI (List.range n)]; exact JG fun x hx => by unfold gain; rw [q x (List.mem_range.mp hx)]; rfl
    have none : ∀ {C D : Ties}, sm (List.range n) (gain C D p) = 0 → ∀ x, x < n → (hs D p x && !hs C p x) = false := fun {C D} q x hx => by
      refine Bool.eq_false_iff.mpr fun g => ?_
      have s := Ju List.nodup_range (List.mem_range.mpr hx) (f := gain C D p) (g := upd (gain C D p) x 0) fun j _ ne => JZ _ _ ne
      rw [Jv, q] at s
      have nn : 0 ≤ sm (List.range n) (upd (gain C D p) x 0) := Jh fun i _ => by
        unfold upd; split
        · exact Int.le_refl _
        · exact (Wb _).1
      have : gain C D p x = 1 := by unfold gain; rw [g]; rfl
      lia
    intro x hx
    have both : (hs A p x && !hs B p x) = false ∧ (hs B p x && !hs A p x) = false := by
      rcases h p hp with q | q
      · exact ⟨q x hx, none (by rw [b]; exact zero q) x hx⟩
      · exact ⟨none (by rw [← b]; exact zero q) x hx, q x hx⟩
    revert both
    cases hs A p x <;> cases hs B p x <;> decide
  refine (List.perm_ext_iff_of_nodup wa.1 wb.1).mpr fun t => ?_
  have key : ∀ {C D : Ties}, Web n C → (∀ p, p < n → ∀ x, x < n → hs C p x = hs D p x) → t ∈ C → t ∈ D := fun w q ht => by
    have wt := w.2 t ht
    have := q t.1 (by lia) t.2 wt.2
    unfold hs at this
    rw [VT wt.1, decide_eq_true ht] at this
    exact of_decide_eq_true this.symm
  exact ⟨key wa z, key wb fun p hp x hx => (z p hp x hx).symm⟩
end
structure Wy (m : Nat) (one other here there : Ties) (ahead behind : List Row) : Prop where
  wh : Web m here
  wt : Web m there
  cn : ∀ v, v < m → cnt here v = cnt there v
  fore : ∀ rs X, Led m here rs X → Led m one (ahead ++ rs) X
  aft : Led m there behind.reverse other
  len : ahead.length + behind.length + dif here there ≤ dif one other
section
variable {m : Nat} {one other here there : Ties} {ahead behind : List Row}
theorem Ge {a b : Ties} (wa : Web m a) (wb : Web m b) (e : ∀ v, v < m → cnt a v = cnt b v) : a.length = b.length := by
  have h1 := XO wa
  have h2 := XO wb
  rw [JG (g := fun p => (cnt b p : Int)) fun i hi => by rw [e i (List.mem_range.mp hi)]] at h1
  lia
theorem XK {ts : Ties} {a b : Nat} : hs ts a b = true ↔ tie a b ∈ ts := by unfold hs; rw [decide_eq_true_iff]; exact Iff.rfl
theorem Vo {ts : Ties} {a b : Nat} : hs ts a b = false ↔ tie a b ∉ ts := by unfold hs; rw [decide_eq_false_iff_not]; exact Iff.rfl
theorem Wy.start (w1 : Web m one) (w2 : Web m other) (e : ∀ v, v < m → cnt one v = cnt other v) (p1 : here.Perm one) (p2 : there.Perm other) : Wy m one other here there [] [] :=
  ⟨⟨p1.nodup_iff.mpr w1.1, fun t ht => w1.2 t (p1.mem_iff.mp ht)⟩, ⟨p2.nodup_iff.mpr w2.1, fun t ht => w2.2 t (p2.mem_iff.mp ht)⟩, fun v hv => by rw [Jq p1, Jq p2]; exact e v hv, fun rs X l => l.perm p1.symm, .nil p2, by
    rw [Qd p1 p2]; simp only [List.length_nil]; lia⟩
structure Pt (m : Nat) (here there : Ties) (p mi th : Nat) : Prop where
  hp : p < m
  hm : mi < m
  ht : th < m
  a1 : hs here p mi = true
  b1 : hs there p mi = false
  b2 : hs there p th = true
  a2 : hs here p th = false
theorem Pt.ne (W : Wy m one other here there ahead behind) {p mi th : Nat} (P : Pt m here there p mi th) : p ≠ mi ∧ p ≠ th ∧ mi ≠ th := by
  refine ⟨fun e => ?_, fun e => ?_, fun e => ?_⟩
  · have := P.a1
    rw [e, W.wh.hs_self] at this
    exact nomatch this
  · have := P.b2
    rw [e, W.wt.hs_self] at this
    exact nomatch this
  · have h1 := P.a1
    rw [e, P.a2] at h1
    exact nomatch h1
theorem Wy.fwd (W : Wy m one other here there ahead behind) {p mi th l : Nat} (P : Pt m here there p mi th) (hl : l < m) (n1 : l ≠ p) (n2 : l ≠ mi) (n3 : l ≠ th) (h1 : hs here th l = true) (h2 : hs here mi l = false) (h3 : (hs there mi l && !hs here mi l || hs here th l && !hs there th l) = true) :
    Fit m here ⟨p, mi, th, l⟩ ∧ dif (exch here ⟨p, mi, th, l⟩) there < dif here there ∧ ∀ us, us.Perm (exch here ⟨p, mi, th, l⟩) → Wy m one other us there (ahead ++ [⟨p, mi, th, l⟩]) behind := by
  obtain ⟨pm, pt, mt⟩ := P.ne W
  have F : Fit m here ⟨p, mi, th, l⟩ := ⟨⟨P.hp, P.hm, P.ht, hl⟩, by
    simp only [List.nodup_cons, List.mem_cons, List.not_mem_nil, or_false, not_or, not_false_eq_true, List.nodup_nil, and_true]
    exact ⟨⟨pm, pt, n1.symm⟩, ⟨mt, n2.symm⟩, n3.symm⟩, XK.mp P.a1, XK.mp h1, Vo.mp P.a2, Vo.mp h2⟩
  have D := F.dif W.wh (us := there) (Vo.mp P.b1) (XK.mp P.b2) (by
    rw [h1, h2] at h3
    cases e1 : hs there mi l with
    | true => exact .inl (XK.mp e1)
    | false => cases e2 : hs there th l with
      | true => rw [e1, e2] at h3; exact nomatch h3
      | false => exact .inr (Vo.mp e2))
  refine ⟨F, D, fun us q => ⟨⟨q.nodup_iff.mpr (F.web W.wh).1, fun t ht => (F.web W.wh).2 t (q.mem_iff.mp ht)⟩, W.wt, fun v hv => by rw [Jq q, F.cnt W.wh]; exact W.cn v hv, fun rs X L => ?_, W.aft, ?_⟩⟩
  · rw [List.append_assoc]
    exact W.fore _ X (.cons F (L.perm q.symm))
  · have := W.len
    rw [Qd q (List.Perm.refl there), List.length_append, List.length_singleton]
    lia
theorem Wy.bwd (W : Wy m one other here there ahead behind) {p mi th l : Nat} (P : Pt m here there p mi th) (hl : l < m) (n1 : l ≠ p) (n2 : l ≠ mi) (n3 : l ≠ th) (h1 : hs there mi l = true) (h2 : hs there th l = false) (h3 : (hs there mi l && !hs here mi l || hs here th l && !hs there th l) = true) :
    Fit m there ⟨p, th, mi, l⟩ ∧ dif here (exch there ⟨p, th, mi, l⟩) < dif here there ∧ ∀ us, us.Perm (exch there ⟨p, th, mi, l⟩) → Wy m one other here us ahead (behind ++ [⟨p, mi, th, l⟩]) := by
  obtain ⟨pm, pt, mt⟩ := P.ne W
  have F : Fit m there ⟨p, th, mi, l⟩ := ⟨⟨P.hp, P.ht, P.hm, hl⟩, by
    simp only [List.nodup_cons, List.mem_cons, List.not_mem_nil, or_false, not_or, not_false_eq_true, List.nodup_nil, and_true]
    exact ⟨⟨pt, pm, n1.symm⟩, ⟨mt.symm, n3.symm⟩, n2.symm⟩, XK.mp P.b2, XK.mp h1, Vo.mp P.b1, Vo.mp h2⟩
  have D := F.dif W.wt (us := here) (Vo.mp P.a2) (XK.mp P.a1) (by
    rw [h1, h2] at h3
    cases e1 : hs here th l with
    | true => exact .inl (XK.mp e1)
    | false => cases e2 : hs here mi l with
      | true => rw [e1, e2] at h3; exact nomatch h3
      | false => exact .inr (Vo.mp e2))
  have wx := F.web W.wt
  have D2 : dif here (exch there ⟨p, th, mi, l⟩) < dif here there := by
    rw [Ut W.wh.1 wx.1 (by rw [F.len W.wt]; exact Ge W.wh W.wt W.cn), Ut W.wh.1 W.wt.1 (Ge W.wh W.wt W.cn)]
    exact D
  refine ⟨F, D2, fun us q => ⟨W.wh, ⟨q.nodup_iff.mpr wx.1, fun t ht => wx.2 t (q.mem_iff.mp ht)⟩, fun v hv => by rw [Jq q, F.cnt W.wt]; exact W.cn v hv, W.fore, ?_, ?_⟩⟩
  · rw [List.reverse_append]
    refine Led.perm (.cons (F.back W.wt) ?_) q
    exact W.aft.perm (Gp W.wt F)
  · have := W.len
    rw [Qd (List.Perm.refl here) q, List.length_append, List.length_singleton]
    lia
theorem Wy.done (W : Wy m one other here there ahead behind) (h : ∀ p, p < m → (∀ mi, mi < m → (hs here p mi && !hs there p mi) = false) ∨ ∀ th, th < m → (hs there p th && !hs here p th) = false) : Led m one (ahead ++ behind.reverse) other ∧ (ahead ++ behind.reverse).length ≤ dif one other := by
  refine ⟨W.fore _ _ (W.aft.perm (ZGb W.wh W.wt W.cn h)), ?_⟩
  have := W.len
  rw [List.length_append, List.length_reverse]; lia
end
end TC

namespace TC
open PySem
theorem He {b : Bool} (h : (!b) = true) : b = false := by cases b; exact rfl; exact nomatch h
theorem XF {step : Rho → (Option PyData → Prop) → Prop} {ρ : Rho} {K : V → Prop} (f : Nat → Bool) (l : List Nat) : ∀ (acc : List Nat), (∀ i ∈ l, ∀ k : Option PyData → Prop, k (cond (f i) (some (.int i)) none) → step (ρ ++ [some (.d (.int i))]) k) →
    acc.length + l.length < 1000 → K (.own (.list (ofInts (zs (acc ++ l.filter f))))) → compW step none ρ K ((ofInts (zs l)).map .d) (ofInts (zs acc)) := by
  induction l with
  | nil => intro acc _ hl h; rw [List.filter_nil, List.append_nil] at h; exact ⟨Yv (by rw [JD, ZAq]; exact hl), h⟩
  | cons i l ih =>
    intro acc h hl hk
    rw [List.length_cons] at hl
    refine h i (.head _) _ ?_
    rw [List.filter_cons] at hk
    cases c : f i with
    | false => rw [c, if_neg (by decide)] at hk; exact ih acc (fun u hu => h u (.tail _ hu)) (by lia) hk
    | true =>
      rw [c, if_pos rfl, ← List.singleton_append, ← List.append_assoc] at hk
      have := ih (acc ++ [i]) (fun u hu => h u (.tail _ hu)) (by rw [List.length_append, List.length_singleton]; lia) hk
      rw [← zs_snoc] at this
      exact this
theorem rng_zs (m : Nat) : (rangeL m).map (fun i => V.d (.int i)) = (ofInts (zs (List.range m))).map .d := by
  unfold ofInts; rw [List.map_map]; rfl
theorem Uu (l : List Nat) : (ofInts (zs l)).isEmpty = l.isEmpty := by cases l <;> rfl
section
variable {n : Nat} {hm : Bool} {K : V → Prop} {X : Nat → Prop}
theorem Qu {ts : Ties} {a b : Nat} (k : K (.d (.bool (hs ts a b)))) : wpCall T06 (n + 2) false 8 [.d (.list (ofPairs ts)), .d (.int a), .d (.int b)] K X := by
  refine JC (fn := f_has) rfl rfl (by decide) ?_
  dsimp only [f_has, b_has, wpSs, wpS, wpE, wpL, slotW, ownS, Rho.putL, frz, bindF, setD, setAll, bindT, F1.W, F2.W, F1.quiet, seqV, numW, isNon, Yx, Yu, Zu, Zt, YN, Zq, Zo, Zp, Za, ZM, YA, ZT, ZR, ZS, YM, Zl, ZY, ZX, ZH, ZG, YL, Zc, Zw, ZO, Yw, YB, Ys, ZP, ZQ, ZI, ZJ, Zd, Ze, Zm, Yt, Zn, Zk, ZK, ZZ, YE, YF, Zj, Zi, YG, YD, ZW, Zh, Zg, JA, YC, ZU, ZF, ZD, ZE, ZC, ZA, ZB, ZV, excIs, JN, YH, YI, Zf, Zr, YJ, YK, YZ, Ya, YQ, YR, YV, YW, Ym, Yn, Yb, Yc, Yi, Yj, YX, YY, Yd, Zy, Zz, JJ, JL, JM, JK, YU, Yo, Ye, Yf, YS, YT, YO, YP, Yy, Yz, Yk, Yl, Yp, Yq, JP, JO, Yh, Yg, Nat.reduceSub, Nat.reduceAdd, Zv, ZN, JB, Zb, Zs]
  refine Jk a b ?_
  exact HD (w := .d (.list (ofPairs ts))) (t := tie a b) rfl k
theorem QV {m : Nat} {here there : Ties} (hz : m ≤ 10) (wh : Web m here) (wt : Web m there) (k1 : ∀ p mi th, Pt m here there p mi th → K (.d (.tuple [.int p, .int mi, .int th])))
    (k2 : (∀ p, p < m → (∀ mi, mi < m → (hs here p mi && !hs there p mi) = false) ∨ ∀ th, th < m → (hs there p th && !hs here p th) = false) → K (.d .none)) :
    wpCall T06 (n + 3) false 9 [.d (.int m), .d (.list (ofPairs here)), .d (.list (ofPairs there))] K X := by
  refine JC (fn := f_parting) rfl rfl (by decide) ?_
  dsimp only [f_parting, b_parting, wpSs, wpS, wpE, wpL, slotW, ownS, Rho.putL, frz, bindF, setD, setAll, bindT, F1.W, F2.W, F1.quiet, seqV, numW, isNon, Yx, Yu, Zu, Zt, YN, Zq, Zo, Zp, Za, ZM, YA, ZT, ZR, ZS, YM, Zl, ZY, ZX, ZH, ZG, YL, Zc, Zw, ZO, Yw, YB, Ys, ZP, ZQ, ZI, ZJ, Zd, Ze, Zm, Yt, Zn, Zk, ZK, ZZ, YE, YF, Zj, Zi, YG, YD, ZW, Zh, Zg, JA, YC, ZU, ZF, ZD, ZE, ZC, ZA, ZB, ZV, excIs, JN, YH, YI, Zf, Zr, YJ, YK, YZ, Ya, YQ, YR, YV, YW, Ym, Yn, Yb, Yc, Yi, Yj, YX, YY, Yd, Zy, Zz, JJ, JL, JM, JK, YU, Yo, Ye, Yf, YS, YT, YO, YP, Yy, Yz, Yk, Yl, Yp, Yq, JP, JO, Yh, Yg, Nat.reduceSub, Nat.reduceAdd, Zv, ZN, JB, Zb, Zs]
  refine ⟨⟨QA (by lia), JR (by lia)⟩, by rw [JS]; exact Yv (by lia), ?_⟩
  refine Jz _ (fun i ρ => ∃ a b c d, ρ = [some (.d (.int m)), some (.d (.list (ofPairs here))), some (.d (.list (ofPairs there))), a, b, c, d] ∧ ∀ p, p < i → (∀ mi, mi < m → (hs here p mi && !hs there p mi) = false) ∨ ∀ th, th < m → (hs there p th && !hs here p th) = false) ?_ ?_ _ ⟨none, none, none, none, rfl, nofun⟩
  · rintro ρ ⟨a, b, c, d, rfl, no⟩
    rw [JS] at no
    exact k2 no
  · rintro p hp ρ kk ⟨a, b, c, d, rfl, no⟩ cont ret
    have hp' : p < m := by rw [JS] at hp; exact hp
    rw [QY]
    dsimp only [b_parting_1, wpSs, wpS, wpE, wpL, slotW, ownS, Rho.putL, frz, bindF, setD, setAll, bindT, F1.W, F2.W, F1.quiet, seqV, numW, isNon, Yx, Yu, Zu, Zt, YN, Zq, Zo, Zp, Za, ZM, YA, ZT, ZR, ZS, YM, Zl, ZY, ZX, ZH, ZG, YL, Zc, Zw, ZO, Yw, YB, Ys, ZP, ZQ, ZI, ZJ, Zd, Ze, Zm, Yt, Zn, Zk, ZK, ZZ, YE, YF, Zj, Zi, YG, YD, ZW, Zh, Zg, JA, YC, ZU, ZF, ZD, ZE, ZC, ZA, ZB, ZV, excIs, JN, YH, YI, Zf, Zr, YJ, YK, YZ, Ya, YQ, YR, YV, YW, Ym, Yn, Yb, Yc, Yi, Yj, YX, YY, Yd, Zy, Zz, JJ, JL, JM, JK, YU, Yo, Ye, Yf, YS, YT, YO, YP, Yy, Yz, Yk, Yl, Yp, Yq, JP, JO, Yh, Yg, Nat.reduceSub, Nat.reduceAdd, Zv, ZN, JB, Zb, Zs]
    refine ⟨⟨QA (by lia), JR (by lia)⟩, by rw [JS]; exact Yv (by lia), ?_⟩
    rw [rng_zs]
    refine XF (fun i => !decide (i = p)) (List.range m) [] (fun i hi k hk => ?_) (by rw [List.length_range]; simp only [List.length_nil]; lia) ?_
    · dsimp only [wpSs, wpS, wpE, wpL, slotW, ownS, Rho.putL, frz, bindF, setD, setAll, bindT, F1.W, F2.W, F1.quiet, seqV, numW, isNon, Yx, Yu, Zu, Zt, YN, Zq, Zo, Zp, Za, ZM, YA, ZT, ZR, ZS, YM, Zl, ZY, ZX, ZH, ZG, YL, Zc, Zw, ZO, Yw, YB, Ys, ZP, ZQ, ZI, ZJ, Zd, Ze, Zm, Yt, Zn, Zk, ZK, ZZ, YE, YF, Zj, Zi, YG, YD, ZW, Zh, Zg, JA, YC, ZU, ZF, ZD, ZE, ZC, ZA, ZB, ZV, excIs, JN, YH, YI, Zf, Zr, YJ, YK, YZ, Ya, YQ, YR, YV, YW, Ym, Yn, Yb, Yc, Yi, Yj, YX, YY, Yd, Zy, Zz, JJ, JL, JM, JK, YU, Yo, Ye, Yf, YS, YT, YO, YP, Yy, Yz, Yk, Yl, Yp, Yq, JP, JO, Yh, Yg, Nat.reduceSub, Nat.reduceAdd, Zv, ZN, JB, Zb, Zs]
      rw [show decide ((i : Int) = p) = decide (i = p) from decide_eq_decide.mpr Int.natCast_inj]
      revert hk
      cases decide (i = p) <;> exact id
    · rw [List.nil_append]
      have lo : ((List.range m).filter fun i => !decide (i = p)).length ≤ 10 := Nat.le_trans (List.length_filter_le ..) (by rw [List.length_range]; exact hz)
      have mo : ∀ i, i ∈ (List.range m).filter (fun i => !decide (i = p)) ↔ i < m ∧ i ≠ p := fun i => by
        rw [List.mem_filter, List.mem_range, Bool.not_eq_true', decide_eq_false_iff_not]
      generalize (List.range m).filter (fun i => !decide (i = p)) = os at *
      dsimp only [wpSs, wpS, wpE, wpL, slotW, ownS, Rho.putL, frz, bindF, setD, setAll, bindT, F1.W, F2.W, F1.quiet, seqV, numW, isNon, Yx, Yu, Zu, Zt, YN, Zq, Zo, Zp, Za, ZM, YA, ZT, ZR, ZS, YM, Zl, ZY, ZX, ZH, ZG, YL, Zc, Zw, ZO, Yw, YB, Ys, ZP, ZQ, ZI, ZJ, Zd, Ze, Zm, Yt, Zn, Zk, ZK, ZZ, YE, YF, Zj, Zi, YG, YD, ZW, Zh, Zg, JA, YC, ZU, ZF, ZD, ZE, ZC, ZA, ZB, ZV, excIs, JN, YH, YI, Zf, Zr, YJ, YK, YZ, Ya, YQ, YR, YV, YW, Ym, Yn, Yb, Yc, Yi, Yj, YX, YY, Yd, Zy, Zz, JJ, JL, JM, JK, YU, Yo, Ye, Yf, YS, YT, YO, YP, Yy, Yz, Yk, Yl, Yp, Yq, JP, JO, Yh, Yg, Nat.reduceSub, Nat.reduceAdd, Zv, ZN, JB, Zb, Zs]
      refine ⟨by rw [List.length_map, JD, ZAq]; exact Yv (by lia), ?_⟩
      refine XF (fun i => hs here p i && !hs there p i) os [] (fun i hi k hk => ?_) (by simp only [List.length_nil]; lia) ?_
      · dsimp only [wpSs, wpS, wpE, wpL, slotW, ownS, Rho.putL, frz, bindF, setD, setAll, bindT, F1.W, F2.W, F1.quiet, seqV, numW, isNon, Yx, Yu, Zu, Zt, YN, Zq, Zo, Zp, Za, ZM, YA, ZT, ZR, ZS, YM, Zl, ZY, ZX, ZH, ZG, YL, Zc, Zw, ZO, Yw, YB, Ys, ZP, ZQ, ZI, ZJ, Zd, Ze, Zm, Yt, Zn, Zk, ZK, ZZ, YE, YF, Zj, Zi, YG, YD, ZW, Zh, Zg, JA, YC, ZU, ZF, ZD, ZE, ZC, ZA, ZB, ZV, excIs, JN, YH, YI, Zf, Zr, YJ, YK, YZ, Ya, YQ, YR, YV, YW, Ym, Yn, Yb, Yc, Yi, Yj, YX, YY, Yd, Zy, Zz, JJ, JL, JM, JK, YU, Yo, Ye, Yf, YS, YT, YO, YP, Yy, Yz, Yk, Yl, Yp, Yq, JP, JO, Yh, Yg, Nat.reduceSub, Nat.reduceAdd, Zv, ZN, JB, Zb, Zs]
        refine Qu ?_
        rw [Yw]
        revert hk
        cases hs here p i with
        | false => exact id
        | true => intro hk; refine Qu ?_; revert hk; cases hs there p i <;> exact id
      · rw [List.nil_append]
        dsimp only [wpSs, wpS, wpE, wpL, slotW, ownS, Rho.putL, frz, bindF, setD, setAll, bindT, F1.W, F2.W, F1.quiet, seqV, numW, isNon, Yx, Yu, Zu, Zt, YN, Zq, Zo, Zp, Za, ZM, YA, ZT, ZR, ZS, YM, Zl, ZY, ZX, ZH, ZG, YL, Zc, Zw, ZO, Yw, YB, Ys, ZP, ZQ, ZI, ZJ, Zd, Ze, Zm, Yt, Zn, Zk, ZK, ZZ, YE, YF, Zj, Zi, YG, YD, ZW, Zh, Zg, JA, YC, ZU, ZF, ZD, ZE, ZC, ZA, ZB, ZV, excIs, JN, YH, YI, Zf, Zr, YJ, YK, YZ, Ya, YQ, YR, YV, YW, Ym, Yn, Yb, Yc, Yi, Yj, YX, YY, Yd, Zy, Zz, JJ, JL, JM, JK, YU, Yo, Ye, Yf, YS, YT, YO, YP, Yy, Yz, Yk, Yl, Yp, Yq, JP, JO, Yh, Yg, Nat.reduceSub, Nat.reduceAdd, Zv, ZN, JB, Zb, Zs]
        refine ⟨by rw [List.length_map, JD, ZAq]; exact Yv (by lia), ?_⟩
        refine XF (fun i => hs there p i && !hs here p i) os [] (fun i hi k hk => ?_) (by simp only [List.length_nil]; lia) ?_
        · dsimp only [wpSs, wpS, wpE, wpL, slotW, ownS, Rho.putL, frz, bindF, setD, setAll, bindT, F1.W, F2.W, F1.quiet, seqV, numW, isNon, Yx, Yu, Zu, Zt, YN, Zq, Zo, Zp, Za, ZM, YA, ZT, ZR, ZS, YM, Zl, ZY, ZX, ZH, ZG, YL, Zc, Zw, ZO, Yw, YB, Ys, ZP, ZQ, ZI, ZJ, Zd, Ze, Zm, Yt, Zn, Zk, ZK, ZZ, YE, YF, Zj, Zi, YG, YD, ZW, Zh, Zg, JA, YC, ZU, ZF, ZD, ZE, ZC, ZA, ZB, ZV, excIs, JN, YH, YI, Zf, Zr, YJ, YK, YZ, Ya, YQ, YR, YV, YW, Ym, Yn, Yb, Yc, Yi, Yj, YX, YY, Yd, Zy, Zz, JJ, JL, JM, JK, YU, Yo, Ye, Yf, YS, YT, YO, YP, Yy, Yz, Yk, Yl, Yp, Yq, JP, JO, Yh, Yg, Nat.reduceSub, Nat.reduceAdd, Zv, ZN, JB, Zb, Zs]
          refine Qu ?_
          rw [Yw]
          revert hk
          cases hs there p i with
          | false => exact id
          | true => intro hk; refine Qu ?_; revert hk; cases hs here p i <;> exact id
        · rw [List.nil_append]
          have none1 : ∀ {A B : Ties}, Web m A → os.filter (fun i => hs A p i && !hs B p i) = [] → ∀ i, i < m → (hs A p i && !hs B p i) = false := fun {A B} w e i hi => by
            by_cases c : i = p
            · rw [c, w.hs_self]; rfl
            · exact Bool.eq_false_iff.mpr (List.filter_eq_nil_iff.mp e i ((mo i).mpr ⟨hi, c⟩))
          have more : ((∀ mi, mi < m → (hs here p mi && !hs there p mi) = false) ∨ ∀ th, th < m → (hs there p th && !hs here p th) = false) → ∀ q, q < p + 1 → (∀ mi, mi < m → (hs here q mi && !hs there q mi) = false) ∨ ∀ th, th < m → (hs there q th && !hs here q th) = false := fun h q hq => by
            by_cases c : q < p
            · exact no q c
            · obtain rfl : q = p := by lia
              exact h
          dsimp only [wpSs, wpS, wpE, wpL, slotW, ownS, Rho.putL, frz, bindF, setD, setAll, bindT, F1.W, F2.W, F1.quiet, seqV, numW, isNon, Yx, Yu, Zu, Zt, YN, Zq, Zo, Zp, Za, ZM, YA, ZT, ZR, ZS, YM, Zl, ZY, ZX, ZH, ZG, YL, Zc, Zw, ZO, Yw, YB, Ys, ZP, ZQ, ZI, ZJ, Zd, Ze, Zm, Yt, Zn, Zk, ZK, ZZ, YE, YF, Zj, Zi, YG, YD, ZW, Zh, Zg, JA, YC, ZU, ZF, ZD, ZE, ZC, ZA, ZB, ZV, excIs, JN, YH, YI, Zf, Zr, YJ, YK, YZ, Ya, YQ, YR, YV, YW, Ym, Yn, Yb, Yc, Yi, Yj, YX, YY, Yd, Zy, Zz, JJ, JL, JM, JK, YU, Yo, Ye, Yf, YS, YT, YO, YP, Yy, Yz, Yk, Yl, Yp, Yq, JP, JO, Yh, Yg, Nat.reduceSub, Nat.reduceAdd, Zv, ZN, JB, Zb, Zs]
          refine WJ rfl (Sh.ints 0 _) (by decide) ?_
          rw [Uu]
          cases em : os.filter (fun i => hs here p i && !hs there p i) with
          | nil => exact cont _ ⟨_, _, _, _, rfl, more (.inl (none1 wh em))⟩
          | cons mi ms =>
            rw [Yw, show (!(mi :: ms).isEmpty) = true from rfl, JJ]
            refine WJ rfl (Sh.ints 0 _) (by decide) ?_
            rw [Uu]
            cases et : os.filter (fun i => hs there p i && !hs here p i) with
            | nil => exact cont _ ⟨_, _, _, _, rfl, more (.inr (none1 wt et))⟩
            | cons th ts =>
              have m1 := List.mem_filter.mp (em ▸ List.mem_cons_self : mi ∈ os.filter (fun i => hs here p i && !hs there p i))
              have m2 := List.mem_filter.mp (et ▸ List.mem_cons_self : th ∈ os.filter (fun i => hs there p i && !hs here p i))
              have q1 := (mo mi).mp m1.1
              have q2 := (mo th).mp m2.1
              have h1 := Bool.and_eq_true_iff.mp m1.2
              have h2 := Bool.and_eq_true_iff.mp m2.2
              rw [Yw, show (!(th :: ts).isEmpty) = true from rfl, JJ]
              show got (idxV (.d (.list (ofInts (zs (mi :: ms))))) 0) _
              rw [QO (by decide) (by decide)]
              show got (idxV (.d (.list (ofInts (zs (th :: ts))))) 0) _
              rw [QO (by decide) (by decide)]
              exact ret _ _ (k1 p mi th ⟨hp', q1.1, q2.1, h1.1, He h1.2, h2.1, He h2.2⟩)
theorem ZBy (p a b l : Nat) : ([PyData.int p, PyData.int a, PyData.int b].any fun z => PyData.eqv z (.int l)) = decide (l = p ∨ l = a ∨ l = b) := by
  refine Bool.eq_iff_iff.mpr ?_
  rw [List.any_eq_true, decide_eq_true_iff]
  have e : ∀ y : Nat, PyData.eqv (.int y) (.int l) = ((y : Int) == l) := fun y => by simp only [PyData.eqv]
  constructor
  · rintro ⟨z, hz, q⟩
    simp only [List.mem_cons, List.not_mem_nil, or_false] at hz
    rcases hz with rfl | rfl | rfl <;> rw [e] at q <;> have q := Int.natCast_inj.mp (beq_iff_eq.mp q)
    · exact .inl q.symm
    · exact .inr (.inl q.symm)
    · exact .inr (.inr q.symm)
  · rintro (rfl | rfl | rfl)
    · exact ⟨_, .head _, by rw [e]; exact beq_self_eq_true _⟩
    · exact ⟨_, .tail _ (.head _), by rw [e]; exact beq_self_eq_true _⟩
    · exact ⟨_, .tail _ (.tail _ (.head _)), by rw [e]; exact beq_self_eq_true _⟩
noncomputable def callH (i j k : Nat) : E := .call 8 (.cons (.nm i) (.cons (.nm j) (.cons (.nm k) .nil)))
noncomputable def lkE : E := .and (.cons (callH 2 5 7) (.cons (.f1 .not (callH 1 5 7)) .nil))
noncomputable def exE : E := .and (.cons (callH 1 6 7) (.cons (.f1 .not (callH 2 6 7)) .nil))
noncomputable def c1E : E := .and (.cons (callH 1 6 7) (.cons (.f1 .not (callH 1 5 7)) (.cons (.or (.cons (.nm 8) (.cons (.nm 9) .nil))) .nil)))
noncomputable def c2E : E := .and (.cons (callH 2 5 7) (.cons (.f1 .not (callH 2 6 7)) (.cons (.or (.cons (.nm 8) (.cons (.nm 9) .nil))) .nil)))
theorem b_fit : b_fitting_1 = .cons (.ite (.cmp (.nm 7) [.notin] (.cons (.nm 3) .nil)) (.cons (.asg false 8 lkE) (.cons (.asg false 9 exE) (.cons (.ite c1E (.cons (.ret (.tup (.cons (.nm 7) (.cons (.k (.bool true)) .nil)))) .nil) .nil) (.cons (.ite c2E (.cons (.ret (.tup (.cons (.nm 7) (.cons (.k (.bool false)) .nil)))) .nil) .nil) .nil)))) .nil) .nil := rfl
noncomputable abbrev ftR (m : Nat) (here there : Ties) (p mi th l : Nat) (a b : Option V) : Rho := [some (.d (.int m)), some (.d (.list (ofPairs here))), some (.d (.list (ofPairs there))), some (.d (.tuple [.int p, .int mi, .int th])), some (.d (.int p)), some (.d (.int mi)), some (.d (.int th)), some (.d (.int l)), a, b]
theorem Jx {ρ : Rho} {i j k : Nat} {ts : Ties} {x y : Nat} (h1 : ρ[i]? = some (some (.d (.list (ofPairs ts))))) (h2 : ρ[j]? = some (some (.d (.int x)))) (h3 : ρ[k]? = some (some (.d (.int y)))) (q : K (.d (.bool (hs ts x y)))) : wpE (wpCall T06 (n + 2)) false X (callH i j k) ρ K := by
  unfold callH
  show got (ρ[i]?) _
  rw [h1]
  show got (ρ[j]?) _
  rw [h2]
  show got (ρ[k]?) _
  rw [h3]
  exact Qu q
theorem an_ev {ρ : Rho} {e f : E} {a b : Bool} (h1 : ∀ {K : V → Prop}, K (.d (.bool a)) → wpE (wpCall T06 (n + 2)) false X e ρ K) (h2 : ∀ {K : V → Prop}, K (.d (.bool b)) → wpE (wpCall T06 (n + 2)) false X f ρ K) (q : K (.d (.bool (a && !b)))) : wpE (wpCall T06 (n + 2)) false X (.and (.cons e (.cons (.f1 .not f) .nil))) ρ K := by
  refine h1 ?_
  cases a with
  | false => exact q
  | true => refine h2 ?_; cases b <;> exact q
theorem ZEj {ρ : Rho} {e f : E} {a b u v : Bool} (h1 : ∀ {K : V → Prop}, K (.d (.bool a)) → wpE (wpCall T06 (n + 2)) false X e ρ K) (h2 : ∀ {K : V → Prop}, K (.d (.bool b)) → wpE (wpCall T06 (n + 2)) false X f ρ K) (h3 : ρ[8]? = some (some (.d (.bool u)))) (h4 : ρ[9]? = some (some (.d (.bool v)))) (q : K (.d (.bool (a && !b && (u || v))))) : wpE (wpCall T06 (n + 2)) false X (.and (.cons e (.cons (.f1 .not f) (.cons (.or (.cons (.nm 8) (.cons (.nm 9) .nil))) .nil)))) ρ K := by
  refine h1 ?_
  cases a with
  | false => exact q
  | true =>
    refine h2 ?_
    cases b with
    | true => exact q
    | false =>
      show got (ρ[8]?) _
      rw [h3]
      cases u with
      | true => exact q
      | false =>
        show got (ρ[9]?) _
        rw [h4]
        cases v <;> exact q
theorem Vk {m : Nat} {one other here there : Ties} {ahead behind : List Row} (hz : m ≤ 10) (W : Wy m one other here there ahead behind) {p mi th : Nat} (P : Pt m here there p mi th)
    (k1 : ∀ l, l < m → l ≠ p → l ≠ mi → l ≠ th → hs here th l = true → hs here mi l = false → (hs there mi l && !hs here mi l || hs here th l && !hs there th l) = true → K (.d (.tuple [.int l, .bool true])))
    (k2 : ∀ l, l < m → l ≠ p → l ≠ mi → l ≠ th → hs there mi l = true → hs there th l = false → (hs there mi l && !hs here mi l || hs here th l && !hs there th l) = true → K (.d (.tuple [.int l, .bool false]))) :
    wpCall T06 (n + 3) false 10 [.d (.int m), .d (.list (ofPairs here)), .d (.list (ofPairs there)), .d (.tuple [.int p, .int mi, .int th])] K X := by
  refine JC (fn := f_fitting) rfl rfl (by decide) ?_
  dsimp only [f_fitting, b_fitting, r_pv3, wpSs, wpS, wpE, wpL, slotW, ownS, Rho.putL, frz, bindF, setD, setAll, bindT, F1.W, F2.W, F1.quiet, seqV, numW, isNon, Yx, Yu, Zu, Zt, YN, Zq, Zo, Zp, Za, ZM, YA, ZT, ZR, ZS, YM, Zl, ZY, ZX, ZH, ZG, YL, Zc, Zw, ZO, Yw, YB, Ys, ZP, ZQ, ZI, ZJ, Zd, Ze, Zm, Yt, Zn, Zk, ZK, ZZ, YE, YF, Zj, Zi, YG, YD, ZW, Zh, Zg, JA, YC, ZU, ZF, ZD, ZE, ZC, ZA, ZB, ZV, excIs, JN, YH, YI, Zf, Zr, YJ, YK, YZ, Ya, YQ, YR, YV, YW, Ym, Yn, Yb, Yc, Yi, Yj, YX, YY, Yd, Zy, Zz, JJ, JL, JM, JK, YU, Yo, Ye, Yf, YS, YT, YO, YP, Yy, Yz, Yk, Yl, Yp, Yq, JP, JO, Yh, Yg, Nat.reduceSub, Nat.reduceAdd, Zv, ZN, JB, Zb, Zs]
  refine ⟨⟨QA (by lia), JR (by lia)⟩, by rw [JS]; exact Yv (by lia), ?_⟩
  refine Jz _ (fun i ρ => ∃ a b c, ρ = [some (.d (.int m)), some (.d (.list (ofPairs here))), some (.d (.list (ofPairs there))), some (.d (.tuple [.int p, .int mi, .int th])), some (.d (.int p)), some (.d (.int mi)), some (.d (.int th)), a, b, c] ∧
    ∀ l, l < i → ¬ (l ≠ p ∧ l ≠ mi ∧ l ≠ th ∧ (hs there mi l && !hs here mi l || hs here th l && !hs there th l) = true ∧ ((hs here th l && !hs here mi l) = true ∨ (hs there mi l && !hs there th l) = true))) ?_ ?_ _ ⟨none, none, none, rfl, nofun⟩
  · rintro ρ ⟨a, b, c, rfl, no⟩
    rw [JS] at no
    obtain ⟨l, h1, h2, h3, h4, h5, h6⟩ := ZFo W.wh W.wt P.hp P.hm P.ht (W.cn _ P.hm) (W.cn _ P.ht) P.a1 P.b1 P.b2 P.a2
    exact absurd ⟨h2, h3, h4, h5, h6⟩ (no l h1)
  · rintro l hl ρ kk ⟨a, b, c, rfl, no⟩ cont ret
    have hl' : l < m := by rw [JS] at hl; exact hl
    rw [QY]
    rw [b_fit]
    dsimp only [wpSs, wpS, wpE, wpL, slotW, ownS, Rho.putL, frz, bindF, setD, setAll, bindT, F1.W, F2.W, F1.quiet, seqV, numW, isNon, Yx, Yu, Zu, Zt, YN, Zq, Zo, Zp, Za, ZM, YA, ZT, ZR, ZS, YM, Zl, ZY, ZX, ZH, ZG, YL, Zc, Zw, ZO, Yw, YB, Ys, ZP, ZQ, ZI, ZJ, Zd, Ze, Zm, Yt, Zn, Zk, ZK, ZZ, YE, YF, Zj, Zi, YG, YD, ZW, Zh, Zg, JA, YC, ZU, ZF, ZD, ZE, ZC, ZA, ZB, ZV, excIs, JN, YH, YI, Zf, Zr, YJ, YK, YZ, Ya, YQ, YR, YV, YW, Ym, Yn, Yb, Yc, Yi, Yj, YX, YY, Yd, Zy, Zz, JJ, JL, JM, JK, YU, Yo, Ye, Yf, YS, YT, YO, YP, Yy, Yz, Yk, Yl, Yp, Yq, JP, JO, Yh, Yg, Nat.reduceSub, Nat.reduceAdd, Zv, ZN, JB, Zb, Zs]
    refine (show _ ∧ _ ∧ _ from ⟨(Sh.int 0 _).shp, (Sh.tuple (d := 0) fun x hx => ?_).shp, ?_⟩)
    · simp only [List.mem_cons, List.not_mem_nil, or_false] at hx
      rcases hx with rfl | rfl | rfl <;> exact .int 0 _
    rw [ZBy]
    have next : ∀ a b c, ¬ (l ≠ p ∧ l ≠ mi ∧ l ≠ th ∧ (hs there mi l && !hs here mi l || hs here th l && !hs there th l) = true ∧ ((hs here th l && !hs here mi l) = true ∨ (hs there mi l && !hs there th l) = true)) → kk .nxt [some (.d (.int m)), some (.d (.list (ofPairs here))), some (.d (.list (ofPairs there))), some (.d (.tuple [.int p, .int mi, .int th])), some (.d (.int p)), some (.d (.int mi)), some (.d (.int th)), a, b, c] := fun a b c h => cont _ ⟨a, b, c, rfl, fun l' hl' => by
      by_cases q : l' < l
      · exact no l' q
      · obtain rfl : l' = l := by lia
        exact h⟩
    by_cases c3 : l = p ∨ l = mi ∨ l = th
    · rw [decide_eq_true c3]
      exact next _ _ _ fun h => c3.elim h.1 fun q => q.elim h.2.1 h.2.2.1
    · rw [decide_eq_false c3]
      have n1 : l ≠ p := fun q => c3 (.inl q)
      have n2 : l ≠ mi := fun q => c3 (.inr (.inl q))
      have n3 : l ≠ th := fun q => c3 (.inr (.inr q))
      refine (show wpE (wpCall T06 (n + 2)) false X lkE (ftR m here there p mi th l b c) _ from an_ev (Jx (ts := there) (x := mi) (y := l) rfl rfl rfl) (Jx (ts := here) (x := mi) (y := l) rfl rfl rfl) ?_)
      refine (show wpE (wpCall T06 (n + 2)) false X exE (ftR m here there p mi th l (some (.d (.bool (hs there mi l && !hs here mi l)))) c) _ from an_ev (Jx (ts := here) (x := th) (y := l) rfl rfl rfl) (Jx (ts := there) (x := th) (y := l) rfl rfl rfl) ?_)
      refine (show wpE (wpCall T06 (n + 2)) false X c1E (ftR m here there p mi th l (some (.d (.bool (hs there mi l && !hs here mi l)))) (some (.d (.bool (hs here th l && !hs there th l))))) _ from ZEj (Jx (ts := here) (x := th) (y := l) rfl rfl rfl) (Jx (ts := here) (x := mi) (y := l) rfl rfl rfl) rfl rfl ?_)
      cases g1 : (hs here th l && !hs here mi l && (hs there mi l && !hs here mi l || hs here th l && !hs there th l)) with
      | true =>
        obtain ⟨g2, g3⟩ := Bool.and_eq_true_iff.mp g1
        obtain ⟨g4, g5⟩ := Bool.and_eq_true_iff.mp g2
        exact ret _ _ (k1 l hl' n1 n2 n3 g4 (He g5) g3)
      | false =>
        refine (show wpE (wpCall T06 (n + 2)) false X c2E (ftR m here there p mi th l (some (.d (.bool (hs there mi l && !hs here mi l)))) (some (.d (.bool (hs here th l && !hs there th l))))) _ from ZEj (Jx (ts := there) (x := mi) (y := l) rfl rfl rfl) (Jx (ts := there) (x := th) (y := l) rfl rfl rfl) rfl rfl ?_)
        cases g6 : (hs there mi l && !hs there th l && (hs there mi l && !hs here mi l || hs here th l && !hs there th l)) with
        | true =>
          obtain ⟨g2, g3⟩ := Bool.and_eq_true_iff.mp g6
          obtain ⟨g4, g5⟩ := Bool.and_eq_true_iff.mp g2
          exact ret _ _ (k2 l hl' n1 n2 n3 g4 (He g5) g3)
        | false =>
          refine next _ _ _ fun h => ?_
          rw [h.2.2.2.1, Bool.and_true] at g1 g6
          rcases h.2.2.2.2 with q | q
          · rw [q] at g1; exact nomatch g1
          · rw [q] at g6; exact nomatch g6
end
end TC

namespace TC
open PySem
theorem ZBs (a : List Int) : ∀ b : List Int, PyData.eqv (.list (ofInts a)) (.list (ofInts b)) = decide (a = b) := by
  have key : ∀ a b : List Int, PyData.eqvAll (ofInts a) (ofInts b) = decide (a = b) := by
    intro a
    induction a with
    | nil => intro b; cases b with
      | nil => rfl
      | cons y b => rfl
    | cons x a ih =>
      intro b
      cases b with
      | nil => rfl
      | cons y b =>
        show (PyData.eqv (.int x) (.int y) && PyData.eqvAll (ofInts a) (ofInts b)) = _
        rw [ih, show PyData.eqv (.int x) (.int y) = (x == y) by simp only [PyData.eqv]]
        refine Bool.eq_iff_iff.mpr ?_
        rw [Bool.and_eq_true, beq_iff_eq, decide_eq_true_iff, decide_eq_true_iff, List.cons.injEq]
  intro b
  rw [← key]
  simp only [PyData.eqv]
theorem UT {v w : V} {a b : List Int} {K : V → Prop} (e : rd v = some (.list (ofInts a))) (e' : rd w = some (.list (ofInts b))) (k : K (.d (.bool (!decide (a = b))))) : objW .ne v w K := by
  show got (rd v) _
  rw [e]
  show got (rd w) _
  rw [e']
  refine (show _ ∧ _ ∧ _ from ⟨(Sh.ints 0 _).shp, (Sh.ints 0 _).shp, ?_⟩)
  rw [ZBs]; exact k
theorem XG (l : List Row) : flats (l.map rw4) = true := by
  induction l with
  | nil => rfl
  | cons a l ih => exact ih
section
variable {n : Nat} {hm : Bool} {K : V → Prop} {X : Nat → Prop}
theorem ZEa {x y z : PyData} (hy : ShortL y) (e : webB x y = false) (k : X 3) : wpCall T06 (n + 4) false 11 [.d x, .d y, .d z] K X := by
  refine JC (fn := f_way) rfl rfl (by decide) ?_
  dsimp only [f_way, b_way, wpSs, wpS, wpE, wpL, slotW, ownS, Rho.putL, frz, bindF, setD, setAll, bindT, F2.W, F1.quiet, seqV, numW, isNon, Yx, Yu, Zu, Zt, YN, Zq, Zo, Zp, Za, ZM, YA, ZT, ZR, ZS, YM, Zl, ZY, ZX, ZH, ZG, YL, Zc, Zw, ZO, Yw, YB, Ys, ZP, ZQ, ZI, ZJ, Zd, Ze, Zm, Yt, Zn, Zk, ZK, ZZ, YE, YF, Zj, Zi, YG, YD, ZW, Zh, Zg, JA, YC, ZU, ZF, ZD, ZE, ZC, ZA, ZB, ZV, excIs, JN, YH, YI, Zf, Zr, YJ, YK, YZ, Ya, YQ, YR, YV, YW, Ym, Yn, Yb, Yc, Yi, Yj, YX, YY, Yd, Zy, Zz, JJ, JL, JM, JK, YU, Yo, Ye, Yf, YS, YT, YO, YP, Yy, Yz, Yk, Yl, Yp, Yq, JP, JO, Yh, Yg, Nat.reduceSub, Nat.reduceAdd, Zv, ZN, JB, Zb, Zs]
  exact Xe x y hy (fun q => by rw [e] at q; exact nomatch q) fun _ => k
theorem ZEb {m : Nat} {ts : Ties} (g : GW m ts) {y : PyData} (hy : ShortL y) (e : webB (.int m) y = false) (k : X 3) : wpCall T06 (n + 4) false 11 [.d (.int m), .d (.list (ofPairs ts)), .d y] K X := by
  refine JC (fn := f_way) rfl rfl (by decide) ?_
  dsimp only [f_way, b_way, wpSs, wpS, wpE, wpL, slotW, ownS, Rho.putL, frz, bindF, setD, setAll, bindT, F2.W, F1.quiet, seqV, numW, isNon, Yx, Yu, Zu, Zt, YN, Zq, Zo, Zp, Za, ZM, YA, ZT, ZR, ZS, YM, Zl, ZY, ZX, ZH, ZG, YL, Zc, Zw, ZO, Yw, YB, Ys, ZP, ZQ, ZI, ZJ, Zd, Ze, Zm, Yt, Zn, Zk, ZK, ZZ, YE, YF, Zj, Zi, YG, YD, ZW, Zh, Zg, JA, YC, ZU, ZF, ZD, ZE, ZC, ZA, ZB, ZV, excIs, JN, YH, YI, Zf, Zr, YJ, YK, YZ, Ya, YQ, YR, YV, YW, Ym, Yn, Yb, Yc, Yi, Yj, YX, YY, Yd, Zy, Zz, JJ, JL, JM, JK, YU, Yo, Ye, Yf, YS, YT, YO, YP, Yy, Yz, Yk, Yl, Yp, Yq, JP, JO, Yh, Yg, Nat.reduceSub, Nat.reduceAdd, Zv, ZN, JB, Zb, Zs]
  refine g.need ?_
  exact Xe (.int m) y hy (fun q => by rw [e] at q; exact nomatch q) fun _ => k
theorem GS {m : Nat} {ts us : Ties} (g : GW m ts) (h : GW m us) (e : ctL m ts ≠ ctL m us) (k : X 5) : wpCall T06 (n + 4) false 11 [.d (.int m), .d (.list (ofPairs ts)), .d (.list (ofPairs us))] K X := by
  refine JC (fn := f_way) rfl rfl (by decide) ?_
  dsimp only [f_way, b_way, wpSs, wpS, wpE, wpL, slotW, ownS, Rho.putL, frz, bindF, setD, setAll, bindT, F2.W, F1.quiet, seqV, numW, isNon, Yx, Yu, Zu, Zt, YN, Zq, Zo, Zp, Za, ZM, YA, ZT, ZR, ZS, YM, Zl, ZY, ZX, ZH, ZG, YL, Zc, Zw, ZO, Yw, YB, Ys, ZP, ZQ, ZI, ZJ, Zd, Ze, Zm, Yt, Zn, Zk, ZK, ZZ, YE, YF, Zj, Zi, YG, YD, ZW, Zh, Zg, JA, YC, ZU, ZF, ZD, ZE, ZC, ZA, ZB, ZV, excIs, JN, YH, YI, Zf, Zr, YJ, YK, YZ, Ya, YQ, YR, YV, YW, Ym, Yn, Yb, Yc, Yi, Yj, YX, YY, Yd, Zy, Zz, JJ, JL, JM, JK, YU, Yo, Ye, Yf, YS, YT, YO, YP, Yy, Yz, Yk, Yl, Yp, Yq, JP, JO, Yh, Yg, Nat.reduceSub, Nat.reduceAdd, Zv, ZN, JB, Zb, Zs]
  refine g.need (h.need ?_)
  refine Jn m g.le ts (Nat.lt_of_le_of_lt g.len (by decide)) g.web (Jn m g.le us (Nat.lt_of_le_of_lt h.len (by decide)) h.web ?_)
  rw [Zf]
  refine UT rfl rfl ?_
  rw [decide_eq_false e]
  exact ⟨rfl, k⟩
noncomputable abbrev wyR (m : Nat) (one other here there : Ties) (ahead behind : List Row) (v : PyData) (a b c d e : Option V) : Rho := [some (.d (.int m)), some (.d (.list (ofPairs one))), some (.d (.list (ofPairs other))), some (.d (.list (ofPairs here))), some (.d (.list (ofPairs there))), some (.own (.list (ahead.map rw4))), some (.own (.list (behind.map rw4))), some (.d v), a, b, c, d, e]
noncomputable def Told3 (m : Nat) (here there : Ties) (v : PyData) : Prop := (v = .none ∧ ∀ p, p < m → (∀ mi, mi < m → (hs here p mi && !hs there p mi) = false) ∨ ∀ th, th < m → (hs there p th && !hs here p th) = false) ∨ ∃ p mi th : Nat, v = .tuple [.int p, .int mi, .int th] ∧ Pt m here there p mi th
theorem WT (rows : List Row) (r : Row) : rows.map rw4 ++ [rw4 r] = (rows ++ [r]).map rw4 := by rw [List.map_append]; rfl
theorem ZEd {m : Nat} {one other here there : Ties} {ahead behind : List Row} (hz : m ≤ 10) (W : Wy m one other here there ahead behind) (hd : dif one other ≤ 100) {p mi th : Nat} (P : Pt m here there p mi th) {a b c d e : Option V} {k : KS}
    (q : ∀ here' there' ahead' behind' v a b c d e, Wy m one other here' there' ahead' behind' → dif here' there' < dif here there → Told3 m here' there' v → k .nxt (wyR m one other here' there' ahead' behind' v a b c d e)) :
    wpSs (wpCall T06 (n + 3)) false b_way_1 (wyR m one other here there ahead behind (.tuple [.int p, .int mi, .int th]) a b c d e) k (fun c _ => X c) := by
  have l1 := JT W.wh hz
  have l2 := JT W.wt hz
  have ln := W.len
  dsimp only [b_way_1, r_pv3, wpSs, wpS, wpE, wpL, slotW, ownS, Rho.putL, frz, bindF, setD, setAll, bindT, F1.W, F2.W, F1.quiet, seqV, numW, isNon, Yx, Yu, Zu, Zt, YN, Zq, Zo, Zp, Za, ZM, YA, ZT, ZR, ZS, YM, Zl, ZY, ZX, ZH, ZG, YL, Zc, Zw, ZO, Yw, YB, Ys, ZP, ZQ, ZI, ZJ, Zd, Ze, Zm, Yt, Zn, Zk, ZK, ZZ, YE, YF, Zj, Zi, YG, YD, ZW, Zh, Zg, JA, YC, ZU, ZF, ZD, ZE, ZC, ZA, ZB, ZV, excIs, JN, YH, YI, Zf, Zr, YJ, YK, YZ, Ya, YQ, YR, YV, YW, Ym, Yn, Yb, Yc, Yi, Yj, YX, YY, Yd, Zy, Zz, JJ, JL, JM, JK, YU, Yo, Ye, Yf, YS, YT, YO, YP, Yy, Yz, Yk, Yl, Yp, Yq, JP, JO, Yh, Yg, Nat.reduceSub, Nat.reduceAdd, Zv, ZN, JB, Zb, Zs]
  refine Vk hz W P (fun l hl n1 n2 n3 h1 h2 h3 => ?_) fun l hl n1 n2 n3 h1 h2 h3 => ?_
  · obtain ⟨F, D, w⟩ := W.fwd P hl n1 n2 n3 h1 h2 h3
    dsimp only [wpSs, wpS, wpE, wpL, slotW, ownS, Rho.putL, frz, bindF, setD, setAll, bindT, F1.W, F2.W, F1.quiet, seqV, numW, isNon, Yx, Yu, Zu, Zt, YN, Zq, Zo, Zp, Za, ZM, YA, ZT, ZR, ZS, YM, Zl, ZY, ZX, ZH, ZG, YL, Zc, Zw, ZO, Yw, YB, Ys, ZP, ZQ, ZI, ZJ, Zd, Ze, Zm, Yt, Zn, Zk, ZK, ZZ, YE, YF, Zj, Zi, YG, YD, ZW, Zh, Zg, JA, YC, ZU, ZF, ZD, ZE, ZC, ZA, ZB, ZV, excIs, JN, YH, YI, Zf, Zr, YJ, YK, YZ, Ya, YQ, YR, YV, YW, Ym, Yn, Yb, Yc, Yi, Yj, YX, YY, Yd, Zy, Zz, JJ, JL, JM, JK, YU, Yo, Ye, Yf, YS, YT, YO, YP, Yy, Yz, Yk, Yl, Yp, Yq, JP, JO, Yh, Yg, Nat.reduceSub, Nat.reduceAdd, Zv, ZN, JB, Zb, Zs]
    refine (show _ ∧ _ from ⟨Yv (by rw [List.length_map]; lia), ?_⟩)
    refine XJ (r := ⟨p, mi, th, l⟩) W.wh F (by lia) fun us pu _ => ?_
    have w' := w us pu
    have D' : dif us there < dif here there := by rw [Qd pu (List.Perm.refl there)]; exact D
    dsimp only [wpSs, wpS, wpE, wpL, slotW, ownS, Rho.putL, frz, bindF, setD, setAll, bindT, F1.W, F2.W, F1.quiet, seqV, numW, isNon, Yx, Yu, Zu, Zt, YN, Zq, Zo, Zp, Za, ZM, YA, ZT, ZR, ZS, YM, Zl, ZY, ZX, ZH, ZG, YL, Zc, Zw, ZO, Yw, YB, Ys, ZP, ZQ, ZI, ZJ, Zd, Ze, Zm, Yt, Zn, Zk, ZK, ZZ, YE, YF, Zj, Zi, YG, YD, ZW, Zh, Zg, JA, YC, ZU, ZF, ZD, ZE, ZC, ZA, ZB, ZV, excIs, JN, YH, YI, Zf, Zr, YJ, YK, YZ, Ya, YQ, YR, YV, YW, Ym, Yn, Yb, Yc, Yi, Yj, YX, YY, Yd, Zy, Zz, JJ, JL, JM, JK, YU, Yo, Ye, Yf, YS, YT, YO, YP, Yy, Yz, Yk, Yl, Yp, Yq, JP, JO, Yh, Yg, Nat.reduceSub, Nat.reduceAdd, Zv, ZN, JB, Zb, Zs]
    rw [show ahead.map rw4 ++ [.tuple [.int p, .int mi, .int th, .int l]] = (ahead ++ [(⟨p, mi, th, l⟩ : Row)]).map rw4 from WT ahead ⟨p, mi, th, l⟩]
    refine QV hz w'.wh w'.wt (fun p mi th P' => ?_) fun no => ?_
    · exact q us there _ behind _ _ _ _ _ _ w' D' (.inr ⟨p, mi, th, rfl, P'⟩)
    · exact q us there _ behind _ _ _ _ _ _ w' D' (.inl ⟨rfl, no⟩)
  · obtain ⟨F, D, w⟩ := W.bwd P hl n1 n2 n3 h1 h2 h3
    dsimp only [wpSs, wpS, wpE, wpL, slotW, ownS, Rho.putL, frz, bindF, setD, setAll, bindT, F1.W, F2.W, F1.quiet, seqV, numW, isNon, Yx, Yu, Zu, Zt, YN, Zq, Zo, Zp, Za, ZM, YA, ZT, ZR, ZS, YM, Zl, ZY, ZX, ZH, ZG, YL, Zc, Zw, ZO, Yw, YB, Ys, ZP, ZQ, ZI, ZJ, Zd, Ze, Zm, Yt, Zn, Zk, ZK, ZZ, YE, YF, Zj, Zi, YG, YD, ZW, Zh, Zg, JA, YC, ZU, ZF, ZD, ZE, ZC, ZA, ZB, ZV, excIs, JN, YH, YI, Zf, Zr, YJ, YK, YZ, Ya, YQ, YR, YV, YW, Ym, Yn, Yb, Yc, Yi, Yj, YX, YY, Yd, Zy, Zz, JJ, JL, JM, JK, YU, Yo, Ye, Yf, YS, YT, YO, YP, Yy, Yz, Yk, Yl, Yp, Yq, JP, JO, Yh, Yg, Nat.reduceSub, Nat.reduceAdd, Zv, ZN, JB, Zb, Zs]
    refine (show _ ∧ _ from ⟨Yv (by rw [List.length_map]; lia), ?_⟩)
    refine XJ (r := ⟨p, th, mi, l⟩) W.wt F (by lia) fun us pu _ => ?_
    have w' := w us pu
    have D' : dif here us < dif here there := by rw [Qd (List.Perm.refl here) pu]; exact D
    dsimp only [wpSs, wpS, wpE, wpL, slotW, ownS, Rho.putL, frz, bindF, setD, setAll, bindT, F1.W, F2.W, F1.quiet, seqV, numW, isNon, Yx, Yu, Zu, Zt, YN, Zq, Zo, Zp, Za, ZM, YA, ZT, ZR, ZS, YM, Zl, ZY, ZX, ZH, ZG, YL, Zc, Zw, ZO, Yw, YB, Ys, ZP, ZQ, ZI, ZJ, Zd, Ze, Zm, Yt, Zn, Zk, ZK, ZZ, YE, YF, Zj, Zi, YG, YD, ZW, Zh, Zg, JA, YC, ZU, ZF, ZD, ZE, ZC, ZA, ZB, ZV, excIs, JN, YH, YI, Zf, Zr, YJ, YK, YZ, Ya, YQ, YR, YV, YW, Ym, Yn, Yb, Yc, Yi, Yj, YX, YY, Yd, Zy, Zz, JJ, JL, JM, JK, YU, Yo, Ye, Yf, YS, YT, YO, YP, Yy, Yz, Yk, Yl, Yp, Yq, JP, JO, Yh, Yg, Nat.reduceSub, Nat.reduceAdd, Zv, ZN, JB, Zb, Zs]
    rw [show behind.map rw4 ++ [.tuple [.int p, .int mi, .int th, .int l]] = (behind ++ [(⟨p, mi, th, l⟩ : Row)]).map rw4 from WT behind ⟨p, mi, th, l⟩]
    refine QV hz w'.wh w'.wt (fun p mi th P' => ?_) fun no => ?_
    · exact q here us ahead _ _ _ _ _ _ _ w' D' (.inr ⟨p, mi, th, rfl, P'⟩)
    · exact q here us ahead _ _ _ _ _ _ _ w' D' (.inl ⟨rfl, no⟩)
theorem VC (ts us : Ties) : dif ts us ≤ ts.length := List.countP_le_length
theorem ZEc {m : Nat} {one other : Ties} (g : GW m one) (h : GW m other) (e : ctL m one = ctL m other) (k : ∀ rows : List Row, Led m one rows other → rows.length ≤ dif one other → K (.own (.list (rows.map rw4)))) : wpCall T06 (n + 4) false 11 [.d (.int m), .d (.list (ofPairs one)), .d (.list (ofPairs other))] K X := by
  have hz := g.le
  have l1 := JT g.web hz
  have l2 := JT h.web hz
  have dl := VC one other
  have ec : ∀ v, v < m → cnt one v = cnt other v := fun v hv => Int.natCast_inj.mp (by rw [← Gx (ts := one) hv, ← Gx (ts := other) hv, e])
  refine JC (fn := f_way) rfl rfl (by decide) ?_
  dsimp only [f_way, b_way, wpSs, wpS, wpE, wpL, slotW, ownS, Rho.putL, frz, bindF, setD, setAll, bindT, F2.W, F1.quiet, seqV, numW, isNon, Yx, Yu, Zu, Zt, YN, Zq, Zo, Zp, Za, ZM, YA, ZT, ZR, ZS, YM, Zl, ZY, ZX, ZH, ZG, YL, Zc, Zw, ZO, Yw, YB, Ys, ZP, ZQ, ZI, ZJ, Zd, Ze, Zm, Yt, Zn, Zk, ZK, ZZ, YE, YF, Zj, Zi, YG, YD, ZW, Zh, Zg, JA, YC, ZU, ZF, ZD, ZE, ZC, ZA, ZB, ZV, excIs, JN, YH, YI, Zf, Zr, YJ, YK, YZ, Ya, YQ, YR, YV, YW, Ym, Yn, Yb, Yc, Yi, Yj, YX, YY, Yd, Zy, Zz, JJ, JL, JM, JK, YU, Yo, Ye, Yf, YS, YT, YO, YP, Yy, Yz, Yk, Yl, Yp, Yq, JP, JO, Yh, Yg, Nat.reduceSub, Nat.reduceAdd, Zv, ZN, JB, Zb, Zs]
  refine g.need (h.need ?_)
  refine Jn m hz one (by lia) g.web (Jn m hz other (by lia) h.web ?_)
  rw [Zf]
  refine UT rfl rfl ?_
  rw [decide_eq_true e, JM, Yw, JL]
  refine Ja (v := .d (.list (ofPairs one))) rfl g.web.1 (by lia) fun here p1 _ => ?_
  dsimp only [wpSs, wpS, wpE, wpL, slotW, ownS, Rho.putL, frz, bindF, setD, setAll, bindT, F2.W, F1.quiet, seqV, numW, isNon, Yx, Yu, Zu, Zt, YN, Zq, Zo, Zp, Za, ZM, YA, ZT, ZR, ZS, YM, Zl, ZY, ZX, ZH, ZG, YL, Zc, Zw, ZO, Yw, YB, Ys, ZP, ZQ, ZI, ZJ, Zd, Ze, Zm, Yt, Zn, Zk, ZK, ZZ, YE, YF, Zj, Zi, YG, YD, ZW, Zh, Zg, JA, YC, ZU, ZF, ZD, ZE, ZC, ZA, ZB, ZV, excIs, JN, YH, YI, Zf, Zr, YJ, YK, YZ, Ya, YQ, YR, YV, YW, Ym, Yn, Yb, Yc, Yi, Yj, YX, YY, Yd, Zy, Zz, JJ, JL, JM, JK, YU, Yo, Ye, Yf, YS, YT, YO, YP, Yy, Yz, Yk, Yl, Yp, Yq, JP, JO, Yh, Yg, Nat.reduceSub, Nat.reduceAdd, Zv, ZN, JB, Zb, Zs]
  refine Ja (v := .d (.list (ofPairs other))) rfl h.web.1 (by lia) fun there p2 _ => ?_
  have W0 := Wy.start g.web h.web ec p1 p2
  dsimp only [wpSs, wpS, wpE, wpL, slotW, ownS, Rho.putL, frz, bindF, setD, setAll, bindT, F1.W, F2.W, F1.quiet, seqV, numW, isNon, Yx, Yu, Zu, Zt, YN, Zq, Zo, Zp, Za, ZM, YA, ZT, ZR, ZS, YM, Zl, ZY, ZX, ZH, ZG, YL, Zc, Zw, ZO, Yw, YB, Ys, ZP, ZQ, ZI, ZJ, Zd, Ze, Zm, Yt, Zn, Zk, ZK, ZZ, YE, YF, Zj, Zi, YG, YD, ZW, Zh, Zg, JA, YC, ZU, ZF, ZD, ZE, ZC, ZA, ZB, ZV, excIs, JN, YH, YI, Zf, Zr, YJ, YK, YZ, Ya, YQ, YR, YV, YW, Ym, Yn, Yb, Yc, Yi, Yj, YX, YY, Yd, Zy, Zz, JJ, JL, JM, JK, YU, Yo, Ye, Yf, YS, YT, YO, YP, Yy, Yz, Yk, Yl, Yp, Yq, JP, JO, Yh, Yg, Nat.reduceSub, Nat.reduceAdd, Zv, ZN, JB, Zb, Zs]
  have loop : ∀ v, Told3 m here there v → ∃ n_1, whlW (fun ρ' => wpE (wpCall T06 (n + 3)) false (fun c => X c) (.f1 .notNone (.nm 7)) ρ') (fun ρ' k => wpSs (wpCall T06 (n + 3)) false b_way_1 ρ' k (fun c _ => X c)) (fun fl ρ' => match fl with
      | .nxt => wpSs (wpCall T06 (n + 3)) false b_way_2 ρ' (outK K) (fun c _ => X c)
      | .ret v => outK K (.ret v) ρ') n_1 (wyR m one other here there [] [] v none none none none none) := fun v hv => by
    refine ⟨dif here there + 1, ZAn (fun j ρ => ∃ here there ahead behind v a b c d e, ρ = wyR m one other here there ahead behind v a b c d e ∧ Wy m one other here there ahead behind ∧ Told3 m here there v ∧ dif here there = j) ?_ _ _ _ (Nat.lt_succ_self _) ⟨here, there, [], [], v, none, none, none, none, none, rfl, W0, hv, rfl⟩⟩
    rintro j _ kk ⟨here, there, ahead, behind, v, a, b, c, d, e, rfl, W, hv, ej⟩ cont _
    rcases hv with ⟨rfl, no⟩ | ⟨p, mi, th, rfl, P⟩
    · obtain ⟨L, lb⟩ := W.done no
      have la : (ahead ++ behind.reverse).length ≤ 100 := by lia
      rw [List.length_append, List.length_reverse] at la
      dsimp only [isNon, b_way_2, wpSs, wpS, wpE, wpL, slotW, ownS, Rho.putL, frz, bindF, setD, setAll, bindT, F1.W, F2.W, F1.quiet, seqV, numW, isNon, Yx, Yu, Zu, Zt, YN, Zq, Zo, Zp, Za, ZM, YA, ZT, ZR, ZS, YM, Zl, ZY, ZX, ZH, ZG, YL, Zc, Zw, ZO, Yw, YB, Ys, ZP, ZQ, ZI, ZJ, Zd, Ze, Zm, Yt, Zn, Zk, ZK, ZZ, YE, YF, Zj, Zi, YG, YD, ZW, Zh, Zg, JA, YC, ZU, ZF, ZD, ZE, ZC, ZA, ZB, ZV, excIs, JN, YH, YI, Zf, Zr, YJ, YK, YZ, Ya, YQ, YR, YV, YW, Ym, Yn, Yb, Yc, Yi, Yj, YX, YY, Yd, Zy, Zz, JJ, JL, JM, JK, YU, Yo, Ye, Yf, YS, YT, YO, YP, Yy, Yz, Yk, Yl, Yp, Yq, JP, JO, Yh, Yg, Nat.reduceSub, Nat.reduceAdd, Zv, ZN, JB, Zb, Zs]
      show got (lsV (.brw (.list (behind.map rw4)))) _
      rw [Qz (XG behind)]
      refine (show _ ∧ _ from ⟨Yv (by rw [List.length_map]; lia), ?_⟩)
      show got (lsV (.brw (.list (ahead.map rw4)))) _
      rw [Qz (XG ahead)]
      refine (show _ ∧ _ from ⟨Yv (by rw [List.length_reverse, List.length_map, List.length_map]; lia), ?_⟩)
      rw [← List.map_reverse, ← List.map_append]
      exact k _ L lb
    · dsimp only [isNon, wpSs, wpS, wpE, wpL, slotW, ownS, Rho.putL, frz, bindF, setD, setAll, bindT, F1.W, F2.W, F1.quiet, seqV, numW, isNon, Yx, Yu, Zu, Zt, YN, Zq, Zo, Zp, Za, ZM, YA, ZT, ZR, ZS, YM, Zl, ZY, ZX, ZH, ZG, YL, Zc, Zw, ZO, Yw, YB, Ys, ZP, ZQ, ZI, ZJ, Zd, Ze, Zm, Yt, Zn, Zk, ZK, ZZ, YE, YF, Zj, Zi, YG, YD, ZW, Zh, Zg, JA, YC, ZU, ZF, ZD, ZE, ZC, ZA, ZB, ZV, excIs, JN, YH, YI, Zf, Zr, YJ, YK, YZ, Ya, YQ, YR, YV, YW, Ym, Yn, Yb, Yc, Yi, Yj, YX, YY, Yd, Zy, Zz, JJ, JL, JM, JK, YU, Yo, Ye, Yf, YS, YT, YO, YP, Yy, Yz, Yk, Yl, Yp, Yq, JP, JO, Yh, Yg, Nat.reduceSub, Nat.reduceAdd, Zv, ZN, JB, Zb, Zs]
      exact ZEd hz W (by lia) P fun here' there' ahead' behind' v a b c d e W' D' T' => cont _ _ (by lia) ⟨here', there', ahead', behind', v, a, b, c, d, e, rfl, W', T', rfl⟩
  refine QV hz W0.wh W0.wt (fun p mi th P => ?_) fun no => ?_
  · exact loop _ (.inr ⟨p, mi, th, rfl, P⟩)
  · exact loop _ (.inl ⟨rfl, no⟩)
end
end TC

namespace TC
open PySem
theorem ZGa {c : Int} {k : Nat} (hc : Sml c) (hk : k < 1000) : IntMulOk (c + 7919 * k + 13) (c + 7919 * k + 13) := by
  have h1 : Builtin.Int.intBits (7919 * (k : Int)) ≤ 64 := intBits_le_64 (by lia) (by lia)
  have h3 := intBits_add_le (intBits_add_le hc h1) (show Builtin.Int.intBits 13 ≤ 4 by decide)
  exact IntMulOk.of_le h3 h3 (by decide)
section
variable {n : Nat} {hm : Bool} {K : V → Prop} {X : Nat → Prop}
theorem dedup4 {a b c d : Int} (h1 : a ≠ b) (h2 : a ≠ c) (h3 : a ≠ d) (h4 : b ≠ c) (h5 : b ≠ d) (h6 : c ≠ d) : ([a, b, c, d].foldl PyProof.Rows.step_dedup []).length = 4 := by
  have e : ∀ {x y : Int}, x ≠ y → (x == y) = false := fun h => beq_false_of_ne h
  simp only [List.foldl_cons, List.foldl_nil, PyProof.Rows.step_dedup, List.any_nil, List.any_cons, List.nil_append, List.cons_append, e h1, e h2, e h3, e h4, e h5, e h6, Bool.or_false, Bool.false_eq_true, if_false, List.length_cons, List.length_nil]
theorem UM {m : Nat} {ts : Ties} {r : Row} (f : Fit m ts r) (k : K (.d (.bool true))) : wpCall T06 (n + 2) false 22 [.d (rw4 r), .d (.int m)] K X := by
  obtain ⟨n1, n2, n3, n4, n5, n6⟩ := f.ne
  obtain ⟨l1, l2, l3, l4⟩ := f.lt
  have i : ∀ {x y : Nat}, x ≠ y → (x : Int) ≠ y := fun h q => h (Int.natCast_inj.mp q)
  refine JC (fn := f__law_is_row) rfl rfl (by decide) ?_
  dsimp only [f__law_is_row, b__law_is_row, compW, wpSs, wpS, wpE, wpL, slotW, ownS, Rho.putL, frz, bindF, setD, setAll, bindT, F1.W, F2.W, F1.quiet, seqV, numW, isNon, Yx, Yu, Zu, Zt, YN, Zq, Zo, Zp, Za, ZM, YA, ZT, ZR, ZS, YM, Zl, ZY, ZX, ZH, ZG, YL, Zc, Zw, ZO, Yw, YB, Ys, ZP, ZQ, ZI, ZJ, Zd, Ze, Zm, Yt, Zn, Zk, ZK, ZZ, YE, YF, Zj, Zi, YG, YD, ZW, Zh, Zg, JA, YC, ZU, ZF, ZD, ZE, ZC, ZA, ZB, ZV, excIs, JN, YH, YI, Zf, Zr, YJ, YK, YZ, Ya, YQ, YR, YV, YW, Ym, Yn, Yb, Yc, Yi, Yj, YX, YY, Yd, Zy, Zz, JJ, JL, JM, JK, YU, Yo, Ye, Yf, YS, YT, YO, YP, Yy, Yz, Yk, Yl, Yp, Yq, JP, JO, Yh, Yg, Nat.reduceSub, Nat.reduceAdd, Zv, ZN, JB, Zb, Zs]
  refine (show _ ∧ _ from ⟨Yv (by decide), Yv (by decide), ?_⟩)
  refine Qi _ (Qi _ (Qi _ (Qi _ ⟨Yv (show 4 < 1000 by decide), ?_⟩)))
  refine (show _ ∧ _ from ⟨show 4 < 64 by decide, ?_⟩)
  rw [dedup4 (i n1) (i n2) (i n3) (i n4) (i n5) (i n6)]
  refine XZ rfl ?_
  show cond (decide ((0 : Int) ≤ min (min (min (r.a : Int) r.b) r.c) r.d)) _ _
  refine XZ (Int.le_min.mpr ⟨Int.le_min.mpr ⟨Int.le_min.mpr ⟨Int.natCast_nonneg _, Int.natCast_nonneg _⟩, Int.natCast_nonneg _⟩, Int.natCast_nonneg _⟩) ?_
  show cond (decide (max (max (max (r.a : Int) r.b) r.c) r.d < m)) _ _
  exact XZ (Int.max_lt.mpr ⟨Int.max_lt.mpr ⟨Int.max_lt.mpr ⟨Int.ofNat_lt.mpr l1, Int.ofNat_lt.mpr l2⟩, Int.ofNat_lt.mpr l3⟩, Int.ofNat_lt.mpr l4⟩) k
theorem ZHf (l : List Int) : ∀ s : List Int, (l.foldl PyProof.Rows.step_dedup s).length ≤ s.length + l.length := by
  induction l with
  | nil => exact fun s => Nat.le_refl _
  | cons a l ih =>
    intro s
    refine Nat.le_trans (ih _) ?_
    have : (PyProof.Rows.step_dedup s a).length ≤ s.length + 1 := by
      unfold PyProof.Rows.step_dedup
      split
      · exact Nat.le_succ _
      · rw [List.length_append]; exact Nat.le_refl _
    rw [List.length_cons]; lia
theorem ZHe {s : List Int} {a : Int} (h : a ∈ s) : PyProof.Rows.step_dedup s a = s := by
  unfold PyProof.Rows.step_dedup
  exact if_pos ((List.any_eq_true (p := fun x => x == a)).mpr ⟨a, h, beq_self_eq_true a⟩)
theorem ZDm {s : List Int} {a : Int} (h : a ∉ s) : PyProof.Rows.step_dedup s a = s ++ [a] := by
  unfold PyProof.Rows.step_dedup
  exact if_neg fun q => by obtain ⟨b, hb, e⟩ := List.any_eq_true.mp q; exact h (beq_iff_eq.mp e ▸ hb)
theorem ZBp (l : List Int) : ∀ s : List Int, (l.foldl PyProof.Rows.step_dedup s).length = s.length + l.length → s.Nodup → (s ++ l).Nodup := by
  induction l with
  | nil => intro s _ h; rw [List.append_nil]; exact h
  | cons a l ih =>
    intro s e h
    by_cases c : a ∈ s
    · have := ZHf l s
      rw [List.foldl_cons, ZHe c, List.length_cons] at e
      lia
    · rw [List.foldl_cons, ZDm c] at e
      have := ih (s ++ [a]) (by rw [e, List.length_append, List.length_cons, List.length_singleton]; lia) (List.nodup_append.mpr ⟨h, List.pairwise_singleton _ _, fun x hx y hy q => c (List.mem_singleton.mp hy ▸ q ▸ hx)⟩)
      rw [List.append_assoc] at this
      exact this
theorem ZBu {ts : Ties} {r : Row} (k1 : tie r.a r.b ∈ ts → tie r.c r.d ∈ ts → tie r.a r.c ∉ ts → tie r.b r.d ∉ ts → K (.d (.bool true))) (k2 : K (.d (.bool false))) : wpCall T06 (n + 2) hm 20 [.d (.list (ofPairs ts)), .d (rw4 r)] K X := by
  refine JC (fn := f__law_fits) rfl rfl (by decide) ?_
  dsimp only [f__law_fits, b__law_fits, wpSs, wpS, wpE, wpL, slotW, ownS, Rho.putL, frz, bindF, setD, setAll, bindT, F1.W, F2.W, F1.quiet, seqV, numW, isNon, Yx, Yu, Zu, Zt, YN, Zq, Zo, Zp, Za, ZM, YA, ZT, ZR, ZS, YM, Zl, ZY, ZX, ZH, ZG, YL, Zc, Zw, ZO, Yw, YB, Ys, ZP, ZQ, ZI, ZJ, Zd, Ze, Zm, Yt, Zn, Zk, ZK, ZZ, YE, YF, Zj, Zi, YG, YD, ZW, Zh, Zg, JA, YC, ZU, ZF, ZD, ZE, ZC, ZA, ZB, ZV, excIs, JN, YH, YI, Zf, Zr, YJ, YK, YZ, Ya, YQ, YR, YV, YW, Ym, Yn, Yb, Yc, Yi, Yj, YX, YY, Yd, Zy, Zz, JJ, JL, JM, JK, YU, Yo, Ye, Yf, YS, YT, YO, YP, Yy, Yz, Yk, Yl, Yp, Yq, JP, JO, Yh, Yg, Nat.reduceSub, Nat.reduceAdd, Zv, ZN, JB, Zb, Zs]
  refine JY r.a r.b (HD rfl ?_)
  by_cases c1 : tie r.a r.b ∈ ts
  · rw [decide_eq_true c1]
    refine JY r.c r.d (HD rfl ?_)
    by_cases c2 : tie r.c r.d ∈ ts
    · rw [decide_eq_true c2]
      refine JY r.a r.c (Qx rfl ?_)
      by_cases c3 : tie r.a r.c ∈ ts
      · rw [decide_eq_true c3]; exact k2
      · rw [decide_eq_false c3]
        refine JY r.b r.d (Qx rfl ?_)
        by_cases c4 : tie r.b r.d ∈ ts
        · rw [decide_eq_true c4]; exact k2
        · rw [decide_eq_false c4]; exact k1 c1 c2 c3 c4
    · rw [decide_eq_false c2]; exact k2
  · rw [decide_eq_false c1]; exact k2
noncomputable abbrev chR (sc : List Int) (fi m : Nat) (ts found : Ties) (a b c d e : Option V) : Rho := [some (.d (.list (ofInts sc))), some (.d (.int fi)), some (.d (.int m)), some (.d (.list (ofPairs ts))), some (.d (.list (ofPairs found))), a, b, c, d, e]
theorem ZFb {sc : List Int} (hs : sc.length < 64) (hb : ∀ x ∈ sc, Sml x) {fi m : Nat} (hfi : fi < 100) (h0 : 0 < m) (hz : m ≤ 10) {ts found : Ties} (w : Web m found) {i j : Nat} (hi : i < 13) (hj : j < 6) {c d e : Option V} {k : KS}
    (q : ∀ us c d, Web m us → (∀ x, cnt us x = cnt found x) → k .nxt (chR sc fi m ts us (some (.d (.int i))) (some (.d (.int j))) c d e)) :
    wpSs (wpCall T06 (n + 2)) false b__law_changed_1 (chR sc fi m ts found (some (.d (.int i))) (some (.d (.int j))) c d e) k (fun c _ => X c) := by
  have hl := JT w hz
  have y0 := fmod_nonneg' (a := (i : Int)) (b := 4) (by decide)
  have y1 := fmod_lt' (a := (i : Int)) (b := 4) (by decide)
  dsimp only [b__law_changed_1, wpSs, wpS, wpE, wpL, slotW, ownS, Rho.putL, frz, bindF, setD, setAll, bindT, F1.W, F2.W, F1.quiet, seqV, numW, isNon, Yx, Yu, Zu, Zt, YN, Zq, Zo, Zp, Za, ZM, YA, ZT, ZR, ZS, YM, Zl, ZY, ZX, ZH, ZG, YL, Zc, Zw, ZO, Yw, YB, Ys, ZP, ZQ, ZI, ZJ, Zd, Ze, Zm, Yt, Zn, Zk, ZK, ZZ, YE, YF, Zj, Zi, YG, YD, ZW, Zh, Zg, JA, YC, ZU, ZF, ZD, ZE, ZC, ZA, ZB, ZV, excIs, JN, YH, YI, Zf, Zr, YJ, YK, YZ, Ya, YQ, YR, YV, YW, Ym, Yn, Yb, Yc, Yi, Yj, YX, YY, Yd, Zy, Zz, JJ, JL, JM, JK, YU, Yo, Ye, Yf, YS, YT, YO, YP, Yy, Yz, Yk, Yl, Yp, Yq, JP, JO, Yh, Yg, Nat.reduceSub, Nat.reduceAdd, Zv, ZN, JB, Zb, Zs]
  refine ⟨by decide, ?_⟩
  refine QF sc _ hs (by lia) (by lia) ?_
  refine ⟨IntMulOk.of_left (by decide), ?_⟩
  rw [show (7 : Int) * i + j = ((7 * i + j : Nat) : Int) by lia]
  refine Xt _ _ (ZGa (VB hb _) (by lia)) ?_
  generalize mixed _ _ = nu
  have nat : ∀ z : Int, ∃ x : Nat, z.fmod m = x ∧ x < m := fun z => by
    have h1 := fmod_nonneg' (a := z) (b := m) (by lia)
    have h2 := fmod_lt' (a := z) (b := m) (by lia)
    exact ⟨(z.fmod m).toNat, by lia, by lia⟩
  obtain ⟨x1, e1, l1⟩ := nat nu
  obtain ⟨x2, e2, l2⟩ := nat (nu.fdiv 10)
  obtain ⟨x3, e3, l3⟩ := nat (nu.fdiv 100)
  obtain ⟨x4, e4, l4⟩ := nat (nu.fdiv 1000)
  dsimp only [wpSs, wpS, wpE, wpL, slotW, ownS, Rho.putL, frz, bindF, setD, setAll, bindT, F1.W, F2.W, F1.quiet, seqV, numW, isNon, Yx, Yu, Zu, Zt, YN, Zq, Zo, Zp, Za, ZM, YA, ZT, ZR, ZS, YM, Zl, ZY, ZX, ZH, ZG, YL, Zc, Zw, ZO, Yw, YB, Ys, ZP, ZQ, ZI, ZJ, Zd, Ze, Zm, Yt, Zn, Zk, ZK, ZZ, YE, YF, Zj, Zi, YG, YD, ZW, Zh, Zg, JA, YC, ZU, ZF, ZD, ZE, ZC, ZA, ZB, ZV, excIs, JN, YH, YI, Zf, Zr, YJ, YK, YZ, Ya, YQ, YR, YV, YW, Ym, Yn, Yb, Yc, Yi, Yj, YX, YY, Yd, Zy, Zz, JJ, JL, JM, JK, YU, Yo, Ye, Yf, YS, YT, YO, YP, Yy, Yz, Yk, Yl, Yp, Yq, JP, JO, Yh, Yg, Nat.reduceSub, Nat.reduceAdd, Zv, ZN, JB, Zb, Zs]
  rw [e1, e2, e3, e4]
  refine (show _ ∧ _ from ⟨by lia, ⟨by decide, by decide⟩, by lia, ⟨by decide, by decide⟩, by lia, ⟨by decide, by decide⟩, by lia, ?_⟩)
  refine (show _ ∧ _ from ⟨show 4 < 64 by decide, ?_⟩)
  have stay := fun c d => q found c d w fun _ => rfl
  refine Ji (fun e => ?_) fun _ => stay _ _
  have nd := ZBp [(x1 : Int), x2, x3, x4] [] (Int.natCast_inj.mp (show (([(x1 : Int), x2, x3, x4].foldl PyProof.Rows.step_dedup []).length : Int) = ((4 : Nat) : Int) from e)) .nil
  refine ZBu (r := ⟨x1, x2, x3, x4⟩) (fun h1 h2 h3 h4 => ?_) (stay _ _)
  have F : Fit m found ⟨x1, x2, x3, x4⟩ := ⟨⟨l1, l2, l3, l4⟩, by
    simp only [List.nil_append, List.nodup_cons, List.mem_cons, List.not_mem_nil, or_false, not_or, not_false_eq_true, List.nodup_nil, and_true, Int.natCast_inj] at nd ⊢
    exact nd, h1, h2, h3, h4⟩
  refine Vr w F (by lia) fun us p _ => ?_
  exact q us _ _ (Qh p (F.web w)) fun x => by rw [Jq p, F.cnt w]
theorem Ve {sc : List Int} (hs : sc.length < 64) (hb : ∀ x ∈ sc, Sml x) {fi m : Nat} (hfi : fi < 100) (h0 : 0 < m) (hz : m ≤ 10) {ts : Ties} (w : Web m ts) (q : ∀ us, Web m us → (∀ x, cnt us x = cnt ts x) → K (.own (.list (ofPairs us)))) :
    wpCall T06 (n + 3) false 24 [.d (.list (ofInts sc)), .d (.int fi), .d (.int m), .d (.list (ofPairs ts))] K X := by
  have hl := JT w hz
  refine JC (fn := f__law_changed) rfl rfl (by decide) ?_
  dsimp only [f__law_changed, b__law_changed, wpSs, wpS, wpE, wpL, slotW, ownS, Rho.putL, frz, bindF, setD, setAll, bindT, F2.W, F1.quiet, seqV, numW, isNon, Yx, Yu, Zu, Zt, YN, Zq, Zo, Zp, Za, ZM, YA, ZT, ZR, ZS, YM, Zl, ZY, ZX, ZH, ZG, YL, Zc, Zw, ZO, Yw, YB, Ys, ZP, ZQ, ZI, ZJ, Zd, Ze, Zm, Yt, Zn, Zk, ZK, ZZ, YE, YF, Zj, Zi, YG, YD, ZW, Zh, Zg, JA, YC, ZU, ZF, ZD, ZE, ZC, ZA, ZB, ZV, excIs, JN, YH, YI, Zf, Zr, YJ, YK, YZ, Ya, YQ, YR, YV, YW, Ym, Yn, Yb, Yc, Yi, Yj, YX, YY, Yd, Zy, Zz, JJ, JL, JM, JK, YU, Yo, Ye, Yf, YS, YT, YO, YP, Yy, Yz, Yk, Yl, Yp, Yq, JP, JO, Yh, Yg, Nat.reduceSub, Nat.reduceAdd, Zv, ZN, JB, Zb, Zs]
  refine Ja (v := .d (.list (ofPairs ts))) rfl w.1 (by lia) fun f0 p0 _ => ?_
  dsimp only [wpSs, wpS, wpE, wpL, slotW, ownS, Rho.putL, frz, bindF, setD, setAll, bindT, F1.W, F2.W, F1.quiet, seqV, numW, isNon, Yx, Yu, Zu, Zt, YN, Zq, Zo, Zp, Za, ZM, YA, ZT, ZR, ZS, YM, Zl, ZY, ZX, ZH, ZG, YL, Zc, Zw, ZO, Yw, YB, Ys, ZP, ZQ, ZI, ZJ, Zd, Ze, Zm, Yt, Zn, Zk, ZK, ZZ, YE, YF, Zj, Zi, YG, YD, ZW, Zh, Zg, JA, YC, ZU, ZF, ZD, ZE, ZC, ZA, ZB, ZV, excIs, JN, YH, YI, Zf, Zr, YJ, YK, YZ, Ya, YQ, YR, YV, YW, Ym, Yn, Yb, Yc, Yi, Yj, YX, YY, Yd, Zy, Zz, JJ, JL, JM, JK, YU, Yo, Ye, Yf, YS, YT, YO, YP, Yy, Yz, Yk, Yl, Yp, Yq, JP, JO, Yh, Yg, Nat.reduceSub, Nat.reduceAdd, Zv, ZN, JB, Zb, Zs]
  refine QF sc fi hs (by lia) (by lia) ?_
  have z0 := fmod_nonneg' (a := cellAt sc fi) (b := 13) (by decide)
  have z1 := fmod_lt' (a := cellAt sc fi) (b := 13) (by decide)
  obtain ⟨c, ec⟩ : ∃ c : Nat, (cellAt sc fi).fmod 13 = c := ⟨((cellAt sc fi).fmod 13).toNat, by lia⟩
  dsimp only [wpSs, wpS, wpE, wpL, slotW, ownS, Rho.putL, frz, bindF, setD, setAll, bindT, F1.W, F2.W, F1.quiet, seqV, numW, isNon, Yx, Yu, Zu, Zt, YN, Zq, Zo, Zp, Za, ZM, YA, ZT, ZR, ZS, YM, Zl, ZY, ZX, ZH, ZG, YL, Zc, Zw, ZO, Yw, YB, Ys, ZP, ZQ, ZI, ZJ, Zd, Ze, Zm, Yt, Zn, Zk, ZK, ZZ, YE, YF, Zj, Zi, YG, YD, ZW, Zh, Zg, JA, YC, ZU, ZF, ZD, ZE, ZC, ZA, ZB, ZV, excIs, JN, YH, YI, Zf, Zr, YJ, YK, YZ, Ya, YQ, YR, YV, YW, Ym, Yn, Yb, Yc, Yi, Yj, YX, YY, Yd, Zy, Zz, JJ, JL, JM, JK, YU, Yo, Ye, Yf, YS, YT, YO, YP, Yy, Yz, Yk, Yl, Yp, Yq, JP, JO, Yh, Yg, Nat.reduceSub, Nat.reduceAdd, Zv, ZN, JB, Zb, Zs]
  rw [ec]
  refine ⟨by decide, ⟨QA (by lia), JR (by lia)⟩, by rw [JS]; exact Yv (by lia), ?_⟩
  refine Jz _ (fun i ρ => ∃ us a b c d e, ρ = chR sc fi m ts us a b c d e ∧ Web m us ∧ ∀ x, cnt us x = cnt ts x) ?_ ?_ _ ⟨f0, none, none, none, none, none, rfl, Qh p0 w, Jq p0⟩
  · rintro ρ ⟨us, a, b, c, d, e, rfl, wu, cu⟩
    have hu := JT wu hz
    have lu : (ofPairs us).length < lim := Jb (by lia)
    dsimp only [b__law_changed_3, wpSs, wpS, wpE, wpL, slotW, ownS, Rho.putL, frz, bindF, setD, setAll, bindT, F1.W, F2.W, F1.quiet, seqV, numW, isNon, Yx, Yu, Zu, Zt, YN, Zq, Zo, Zp, Za, ZM, YA, ZT, ZR, ZS, YM, Zl, ZY, ZX, ZH, ZG, YL, Zc, Zw, ZO, Yw, YB, Ys, ZP, ZQ, ZI, ZJ, Zd, Ze, Zm, Yt, Zn, Zk, ZK, ZZ, YE, YF, Zj, Zi, YG, YD, ZW, Zh, Zg, JA, YC, ZU, ZF, ZD, ZE, ZC, ZA, ZB, ZV, excIs, JN, YH, YI, Zf, Zr, YJ, YK, YZ, Ya, YQ, YR, YV, YW, Ym, Yn, Yb, Yc, Yi, Yj, YX, YY, Yd, Zy, Zz, JJ, JL, JM, JK, YU, Yo, Ye, Yf, YS, YT, YO, YP, Yy, Yz, Yk, Yl, Yp, Yq, JP, JO, Yh, Yg, Nat.reduceSub, Nat.reduceAdd, Zv, ZN, JB, Zb, Zs]
    refine QF sc fi hs (by lia) (by lia) ?_
    dsimp only [wpSs, wpS, wpE, wpL, slotW, ownS, Rho.putL, frz, bindF, setD, setAll, bindT, F1.W, F2.W, F1.quiet, seqV, numW, isNon, Yx, Yu, Zu, Zt, YN, Zq, Zo, Zp, Za, ZM, YA, ZT, ZR, ZS, YM, Zl, ZY, ZX, ZH, ZG, YL, Zc, Zw, ZO, Yw, YB, Ys, ZP, ZQ, ZI, ZJ, Zd, Ze, Zm, Yt, Zn, Zk, ZK, ZZ, YE, YF, Zj, Zi, YG, YD, ZW, Zh, Zg, JA, YC, ZU, ZF, ZD, ZE, ZC, ZA, ZB, ZV, excIs, JN, YH, YI, Zf, Zr, YJ, YK, YZ, Ya, YQ, YR, YV, YW, Ym, Yn, Yb, Yc, Yi, Yj, YX, YY, Yd, Zy, Zz, JJ, JL, JM, JK, YU, Yo, Ye, Yf, YS, YT, YO, YP, Yy, Yz, Yk, Yl, Yp, Yq, JP, JO, Yh, Yg, Nat.reduceSub, Nat.reduceAdd, Zv, ZN, JB, Zb, Zs]
    rw [Yr]
    have t0 := fmod_nonneg' (a := (cellAt sc fi).fdiv 13) (b := 1 + (us.length : Int)) (by lia)
    have t1 := fmod_lt' (a := (cellAt sc fi).fdiv 13) (b := 1 + (us.length : Int)) (by lia)
    refine ⟨⟨by decide, by decide⟩, Yv (by lia), by lia, ?_⟩
    generalize ((cellAt sc fi).fdiv 13).fmod (1 + (us.length : Int)) = tu at *
    have tl : tu < (lim : Int) := JR (by lia)
    refine (show _ ∧ _ from ⟨⟨t0, tl, lu⟩, ?_⟩)
    refine (show _ ∧ _ from ⟨⟨t0, tl, lu⟩, ?_⟩)
    rw [QS, QT]
    refine (show _ ∧ _ from ⟨by rw [Yr, Yr, List.length_drop, List.length_take]; exact Yv (by lia), ?_⟩)
    rw [JF]
    have p : (us.drop tu.toNat ++ us.take tu.toNat).Perm us := List.perm_append_comm.trans (by rw [List.take_append_drop])
    exact q _ (Qh p wu) fun x => by rw [Jq p, cu]
  · rintro i hi ρ k ⟨us, a, b, c', d, e, rfl, wu, cu⟩ cont _
    have hi' : i < 13 := by rw [JS] at hi; lia
    rw [QY]
    dsimp only [b__law_changed_2, wpSs, wpS, wpE, wpL, slotW, ownS, Rho.putL, frz, bindF, setD, setAll, bindT, F1.W, F2.W, F1.quiet, seqV, numW, isNon, Yx, Yu, Zu, Zt, YN, Zq, Zo, Zp, Za, ZM, YA, ZT, ZR, ZS, YM, Zl, ZY, ZX, ZH, ZG, YL, Zc, Zw, ZO, Yw, YB, Ys, ZP, ZQ, ZI, ZJ, Zd, Ze, Zm, Yt, Zn, Zk, ZK, ZZ, YE, YF, Zj, Zi, YG, YD, ZW, Zh, Zg, JA, YC, ZU, ZF, ZD, ZE, ZC, ZA, ZB, ZV, excIs, JN, YH, YI, Zf, Zr, YJ, YK, YZ, Ya, YQ, YR, YV, YW, Ym, Yn, Yb, Yc, Yi, Yj, YX, YY, Yd, Zy, Zz, JJ, JL, JM, JK, YU, Yo, Ye, Yf, YS, YT, YO, YP, Yy, Yz, Yk, Yl, Yp, Yq, JP, JO, Yh, Yg, Nat.reduceSub, Nat.reduceAdd, Zv, ZN, JB, Zb, Zs]
    rw [show (6 : Int) = ((6 : Nat) : Int) from rfl]
    refine ⟨⟨QA (by decide), JR (by decide)⟩, by rw [JS]; exact Yv (by decide), ?_⟩
    refine Jz _ (fun j ρ => ∃ us b c d e, ρ = chR sc fi m ts us (some (.d (.int i))) b c d e ∧ Web m us ∧ ∀ x, cnt us x = cnt ts x) ?_ ?_ _ ⟨us, b, c', d, e, rfl, wu, cu⟩
    · rintro ρ ⟨us, b, c, d, e, rfl, wu, cu⟩
      exact cont _ ⟨us, _, b, c, d, e, rfl, wu, cu⟩
    · rintro j hj ρ k2 ⟨us, b, c, d, e, rfl, wu, cu⟩ cont2 _
      have hj' : j < 6 := by rw [JS] at hj; exact hj
      rw [QY, YM, Yx]
      exact ZFb hs hb hfi h0 hz wu hi' hj' fun us' c d w' c' => cont2 _ ⟨us', _, c, d, e, rfl, w', fun x => (c' x).trans (cu x)⟩
end
end TC

namespace TC
open PySem
theorem UL {v w : V} {x : PyData} {K : V → Prop} {d : Nat} (e : rd v = some x) (e' : rd w = some x) (h : Sh d x) (le : d ≤ 64) (k : K (.d (.bool true))) : objW .eq v w K := by
  show got (rd v) _
  rw [e]
  show got (rd w) _
  rw [e']
  refine ⟨h.shp le, h.shp le, ?_⟩
  rw [h.eq]; exact k
theorem not_t {a b : Prop} (k : b) : got (some true) fun c => F1.not.W (.d (.bool c)) fun v => ifB v a b := k
section
variable {n : Nat} {hm : Bool} {K : V → Prop} {X : Nat → Prop}
noncomputable abbrev leR (m : Nat) (one other here : Ties) (f : Option V) (c : Option V) : Rho := [some (.d (.int m)), some (.d (.list (ofPairs one))), some (.d (.list (ofPairs other))), f, some (.d (.list (ofPairs here))), c]
theorem ZCf {m : Nat} (hz : m ≤ 10) {one other : Ties} {f : Option V} {Ko : KS} {rows : List Row} : ∀ {here : Ties} {c : Option V}, Web m here → Sd here → Led m here rows other → (∀ us c, Sd us → us.Perm other → Ko .nxt (leR m one other us f c)) →
    forW (fun x ρ' k => bindF (.one 5) x ρ' fun ρ'' => wpSs (wpCall T06 (n + 2)) false b__law_led_1 ρ'' k (fun c _ => X c)) Ko ((rows.map rw4).map .d) (leR m one other here f c) := by
  induction rows with
  | nil => rintro here c w sd L k; cases L with | nil p => exact k _ _ sd p
  | cons r rows ih =>
    rintro here c w sd L k
    cases L with
    | cons F L =>
      have hl := JT w hz
      rw [show ((r :: rows).map rw4).map V.d = V.d (rw4 r) :: (rows.map rw4).map V.d from rfl]
      dsimp only [forW, b__law_led_1, wpSs, wpS, wpE, wpL, slotW, ownS, Rho.putL, frz, bindF, setD, setAll, bindT, F1.W, F2.W, F1.quiet, seqV, numW, isNon, Yx, Yu, Zu, Zt, YN, Zq, Zo, Zp, Za, ZM, YA, ZT, ZR, ZS, YM, Zl, ZY, ZX, ZH, ZG, YL, Zc, Zw, ZO, Yw, YB, Ys, ZP, ZQ, ZI, ZJ, Zd, Ze, Zm, Yt, Zn, Zk, ZK, ZZ, YE, YF, Zj, Zi, YG, YD, ZW, Zh, Zg, JA, YC, ZU, ZF, ZD, ZE, ZC, ZA, ZB, ZV, excIs, JN, YH, YI, Zf, Zr, YJ, YK, YZ, Ya, YQ, YR, YV, YW, Ym, Yn, Yb, Yc, Yi, Yj, YX, YY, Yd, Zy, Zz, JJ, JL, JM, JK, YU, Yo, Ye, Yf, YS, YT, YO, YP, Yy, Yz, Yk, Yl, Yp, Yq, JP, JO, Yh, Yg, Nat.reduceSub, Nat.reduceAdd, Zv, ZN, JB, Zb, Zs]
      refine UM F (Gr F (Vr w F (by lia) fun us p sd' => ?_))
      exact ih (Qh p (F.web w)) sd' (L.perm p) k
theorem VI {m : Nat} {one other : Ties} {rows : List Row} (g : GW m one) (h : GW m other) (L : Led m one rows other) (hr : rows.length ≤ dif one other) {v : V} (hv : v = .d (.list (rows.map rw4)) ∨ v = .brw (.list (rows.map rw4))) (k : K (.d (.bool true))) : wpCall T06 (n + 3) false 25 [.d (.int m), .d (.list (ofPairs one)), .d (.list (ofPairs other)), v] K X := by
  have hz := g.le
  have l1 := JT g.web hz
  have l2 := JT h.web hz
  have dl := VC one other
  have lr : (rows.map rw4).length < lim := Yv (by rw [List.length_map]; lia)
  refine JC (fn := f__law_led) rfl rfl (by decide) ?_
  have e1 : isiV .list (nmV v) = some true := by rcases hv with rfl | rfl <;> rfl
  have e3 : rd (nmV v) = some (.list (rows.map rw4)) := by rcases hv with rfl | rfl <;> rfl
  have e2 : itemsV false (frzV v) = some ((rows.map rw4).map .d) := by
    rcases hv with rfl | rfl
    · rfl
    · show some ((rows.map rw4).map low) = _
      rw [List.map_map, List.map_map]; rfl
  dsimp only [f__law_led, b__law_led, wpSs, wpS, wpE, wpL, slotW, ownS, Rho.putL, frz, bindF, setD, setAll, bindT, F2.W, F1.quiet, seqV, numW, isNon, Yx, Yu, Zu, Zt, YN, Zq, Zo, Zp, Za, ZM, YA, ZT, ZR, ZS, YM, Zl, ZY, ZX, ZH, ZG, YL, Zc, Zw, ZO, Yw, YB, Ys, ZP, ZQ, ZI, ZJ, Zd, Ze, Zm, Yt, Zn, Zk, ZK, ZZ, YE, YF, Zj, Zi, YG, YD, ZW, Zh, Zg, JA, YC, ZU, ZF, ZD, ZE, ZC, ZA, ZB, ZV, excIs, JN, YH, YI, Zf, Zr, YJ, YK, YZ, Ya, YQ, YR, YV, YW, Ym, Yn, Yb, Yc, Yi, Yj, YX, YY, Yd, Zy, Zz, JJ, JL, JM, JK, YU, Yo, Ye, Yf, YS, YT, YO, YP, Yy, Yz, Yk, Yl, Yp, Yq, JP, JO, Yh, Yg, Nat.reduceSub, Nat.reduceAdd, Zv, ZN, JB, Zb, Zs]
  show got (isiV .list (nmV v)) _
  rw [e1]
  refine not_t ?_
  show got (rd (nmV v)) _
  rw [e3]
  refine (show _ ∧ _ from ⟨lr, ?_⟩)
  refine (show _ ∧ _ from ⟨by rw [List.length_map]; exact Jb (by lia), ?_⟩)
  refine Js (fun t => !decide (t ∈ other)) one [] (fun t ht kk hk => ?_) (by simp only [List.length_nil]; lia) ?_
  · dsimp only [wpSs, wpS, wpE, wpL, slotW, ownS, Rho.putL, frz, bindF, setD, setAll, bindT, F2.W, F1.quiet, seqV, numW, isNon, Yx, Yu, Zu, Zt, YN, Zq, Zo, Zp, Za, ZM, YA, ZT, ZR, ZS, YM, Zl, ZY, ZX, ZH, ZG, YL, Zc, Zw, ZO, Yw, YB, Ys, ZP, ZQ, ZI, ZJ, Zd, Ze, Zm, Yt, Zn, Zk, ZK, ZZ, YE, YF, Zj, Zi, YG, YD, ZW, Zh, Zg, JA, YC, ZU, ZF, ZD, ZE, ZC, ZA, ZB, ZV, excIs, JN, YH, YI, Zf, Zr, YJ, YK, YZ, Ya, YQ, YR, YV, YW, Ym, Yn, Yb, Yc, Yi, Yj, YX, YY, Yd, Zy, Zz, JJ, JL, JM, JK, YU, Yo, Ye, Yf, YS, YT, YO, YP, Yy, Yz, Yk, Yl, Yp, Yq, JP, JO, Yh, Yg, Nat.reduceSub, Nat.reduceAdd, Zv, ZN, JB, Zb, Zs]
    refine XR (w := .d (.list (ofPairs other))) (t := t) rfl ?_
    revert hk
    cases decide (t ∈ other) <;> exact id
  · rw [List.nil_append]
    have ed : (one.filter fun t => !decide (t ∈ other)).length = dif one other := by
      unfold dif
      rw [List.countP_eq_length_filter]
      congr 1
      exact List.filter_congr fun t _ => (decide_not ..).symm
    refine (show _ ∧ _ from ⟨by rw [Yr, ed]; exact Yv (by lia), ?_⟩)
    rw [Yr, ed, List.length_map]
    refine (show cond (decide ((dif one other : Int) < rows.length)) _ _ from ifB_no (by lia) ?_)
    refine Ja (v := .d (.list (ofPairs one))) rfl g.web.1 (by lia) fun us p sd => ?_
    dsimp only [wpSs, wpS, wpE, wpL, slotW, ownS, Rho.putL, frz, bindF, setD, setAll, bindT, F2.W, F1.quiet, seqV, numW, isNon, Yx, Yu, Zu, Zt, YN, Zq, Zo, Zp, Za, ZM, YA, ZT, ZR, ZS, YM, Zl, ZY, ZX, ZH, ZG, YL, Zc, Zw, ZO, Yw, YB, Ys, ZP, ZQ, ZI, ZJ, Zd, Ze, Zm, Yt, Zn, Zk, ZK, ZZ, YE, YF, Zj, Zi, YG, YD, ZW, Zh, Zg, JA, YC, ZU, ZF, ZD, ZE, ZC, ZA, ZB, ZV, excIs, JN, YH, YI, Zf, Zr, YJ, YK, YZ, Ya, YQ, YR, YV, YW, Ym, Yn, Yb, Yc, Yi, Yj, YX, YY, Yd, Zy, Zz, JJ, JL, JM, JK, YU, Yo, Ye, Yf, YS, YT, YO, YP, Yy, Yz, Yk, Yl, Yp, Yq, JP, JO, Yh, Yg, Nat.reduceSub, Nat.reduceAdd, Zv, ZN, JB, Zb, Zs]
    rw [e2]
    refine (show _ ∧ _ from ⟨Yv (by rw [List.length_map, List.length_map]; lia), ?_⟩)
    refine ZCf hz (Qh p g.web) sd (L.perm p) fun us c sd' p' => ?_
    dsimp only [b__law_led_2, wpSs, wpS, wpE, wpL, slotW, ownS, Rho.putL, frz, bindF, setD, setAll, bindT, F2.W, F1.quiet, seqV, numW, isNon, Yx, Yu, Zu, Zt, YN, Zq, Zo, Zp, Za, ZM, YA, ZT, ZR, ZS, YM, Zl, ZY, ZX, ZH, ZG, YL, Zc, Zw, ZO, Yw, YB, Ys, ZP, ZQ, ZI, ZJ, Zd, Ze, Zm, Yt, Zn, Zk, ZK, ZZ, YE, YF, Zj, Zi, YG, YD, ZW, Zh, Zg, JA, YC, ZU, ZF, ZD, ZE, ZC, ZA, ZB, ZV, excIs, JN, YH, YI, Zf, Zr, YJ, YK, YZ, Ya, YQ, YR, YV, YW, Ym, Yn, Yb, Yc, Yi, Yj, YX, YY, Yd, Zy, Zz, JJ, JL, JM, JK, YU, Yo, Ye, Yf, YS, YT, YO, YP, Yy, Yz, Yk, Yl, Yp, Yq, JP, JO, Yh, Yg, Nat.reduceSub, Nat.reduceAdd, Zv, ZN, JB, Zb, Zs]
    refine Ja (v := .d (.list (ofPairs other))) rfl h.web.1 (by lia) fun vs pv sv => ?_
    obtain rfl := sd'.uniq sv (p'.trans pv.symm)
    exact UL rfl rfl (Sh.pairs 0 us) (by decide) k
noncomputable abbrev refU : PyData := .tuple [.str "refused", .list [.str "unlike"]]
theorem HO {x y z : PyData} (hy : ShortL y) (e : webB x y = false) (k : K (.d refused)) : wpCall T06 (n + 5) false 26 [.d x, .d y, .d z] K X := by
  refine JC (fn := f__law_told) rfl rfl (by decide) ?_
  dsimp only [f__law_told, b__law_told, wpSs, wpS, wpE, wpL, slotW, ownS, Rho.putL, frz, bindF, setD, setAll, bindT, F1.W, F2.W, F1.quiet, seqV, numW, isNon, Yx, Yu, Zu, Zt, YN, Zq, Zo, Zp, Za, ZM, YA, ZT, ZR, ZS, YM, Zl, ZY, ZX, ZH, ZG, YL, Zc, Zw, ZO, Yw, YB, Ys, ZP, ZQ, ZI, ZJ, Zd, Ze, Zm, Yt, Zn, Zk, ZK, ZZ, YE, YF, Zj, Zi, YG, YD, ZW, Zh, Zg, JA, YC, ZU, ZF, ZD, ZE, ZC, ZA, ZB, ZV, excIs, JN, YH, YI, Zf, Zr, YJ, YK, YZ, Ya, YQ, YR, YV, YW, Ym, Yn, Yb, Yc, Yi, Yj, YX, YY, Yd, Zy, Zz, JJ, JL, JM, JK, YU, Yo, Ye, Yf, YS, YT, YO, YP, Yy, Yz, Yk, Yl, Yp, Yq, JP, JO, Yh, Yg, Nat.reduceSub, Nat.reduceAdd, Zv, ZN, JB, Zb, Zs]
  exact ZEa hy e ⟨.inl rfl, rfl, Vq ⟨trivial, k⟩⟩
theorem ZFw {m : Nat} {ts : Ties} (g : GW m ts) {y : PyData} (hy : ShortL y) (e : webB (.int m) y = false) (k : K (.d refused)) : wpCall T06 (n + 5) false 26 [.d (.int m), .d (.list (ofPairs ts)), .d y] K X := by
  refine JC (fn := f__law_told) rfl rfl (by decide) ?_
  dsimp only [f__law_told, b__law_told, wpSs, wpS, wpE, wpL, slotW, ownS, Rho.putL, frz, bindF, setD, setAll, bindT, F1.W, F2.W, F1.quiet, seqV, numW, isNon, Yx, Yu, Zu, Zt, YN, Zq, Zo, Zp, Za, ZM, YA, ZT, ZR, ZS, YM, Zl, ZY, ZX, ZH, ZG, YL, Zc, Zw, ZO, Yw, YB, Ys, ZP, ZQ, ZI, ZJ, Zd, Ze, Zm, Yt, Zn, Zk, ZK, ZZ, YE, YF, Zj, Zi, YG, YD, ZW, Zh, Zg, JA, YC, ZU, ZF, ZD, ZE, ZC, ZA, ZB, ZV, excIs, JN, YH, YI, Zf, Zr, YJ, YK, YZ, Ya, YQ, YR, YV, YW, Ym, Yn, Yb, Yc, Yi, Yj, YX, YY, Yd, Zy, Zz, JJ, JL, JM, JK, YU, Yo, Ye, Yf, YS, YT, YO, YP, Yy, Yz, Yk, Yl, Yp, Yq, JP, JO, Yh, Yg, Nat.reduceSub, Nat.reduceAdd, Zv, ZN, JB, Zb, Zs]
  exact ZEb g hy e ⟨.inl rfl, rfl, Vq ⟨trivial, k⟩⟩
theorem HP {m : Nat} {ts us : Ties} (g : GW m ts) (h : GW m us) (e : ctL m ts ≠ ctL m us) (k : K (.d refU)) : wpCall T06 (n + 5) false 26 [.d (.int m), .d (.list (ofPairs ts)), .d (.list (ofPairs us))] K X := by
  refine JC (fn := f__law_told) rfl rfl (by decide) ?_
  dsimp only [f__law_told, b__law_told, wpSs, wpS, wpE, wpL, slotW, ownS, Rho.putL, frz, bindF, setD, setAll, bindT, F1.W, F2.W, F1.quiet, seqV, numW, isNon, Yx, Yu, Zu, Zt, YN, Zq, Zo, Zp, Za, ZM, YA, ZT, ZR, ZS, YM, Zl, ZY, ZX, ZH, ZG, YL, Zc, Zw, ZO, Yw, YB, Ys, ZP, ZQ, ZI, ZJ, Zd, Ze, Zm, Yt, Zn, Zk, ZK, ZZ, YE, YF, Zj, Zi, YG, YD, ZW, Zh, Zg, JA, YC, ZU, ZF, ZD, ZE, ZC, ZA, ZB, ZV, excIs, JN, YH, YI, Zf, Zr, YJ, YK, YZ, Ya, YQ, YR, YV, YW, Ym, Yn, Yb, Yc, Yi, Yj, YX, YY, Yd, Zy, Zz, JJ, JL, JM, JK, YU, Yo, Ye, Yf, YS, YT, YO, YP, Yy, Yz, Yk, Yl, Yp, Yq, JP, JO, Yh, Yg, Nat.reduceSub, Nat.reduceAdd, Zv, ZN, JB, Zb, Zs]
  exact GS g h e ⟨.inl rfl, rfl, UP ⟨trivial, k⟩⟩
theorem UR {m : Nat} {one other : Ties} (g : GW m one) (h : GW m other) (e : ctL m one = ctL m other) (k : ∀ rows : List Row, Led m one rows other → rows.length ≤ dif one other → K (.own (.list (rows.map rw4)))) : wpCall T06 (n + 5) false 26 [.d (.int m), .d (.list (ofPairs one)), .d (.list (ofPairs other))] K X := by
  refine JC (fn := f__law_told) rfl rfl (by decide) ?_
  dsimp only [f__law_told, b__law_told, wpSs, wpS, wpE, wpL, slotW, ownS, Rho.putL, frz, bindF, setD, setAll, bindT, F1.W, F2.W, F1.quiet, seqV, numW, isNon, Yx, Yu, Zu, Zt, YN, Zq, Zo, Zp, Za, ZM, YA, ZT, ZR, ZS, YM, Zl, ZY, ZX, ZH, ZG, YL, Zc, Zw, ZO, Yw, YB, Ys, ZP, ZQ, ZI, ZJ, Zd, Ze, Zm, Yt, Zn, Zk, ZK, ZZ, YE, YF, Zj, Zi, YG, YD, ZW, Zh, Zg, JA, YC, ZU, ZF, ZD, ZE, ZC, ZA, ZB, ZV, excIs, JN, YH, YI, Zf, Zr, YJ, YK, YZ, Ya, YQ, YR, YV, YW, Ym, Yn, Yb, Yc, Yi, Yj, YX, YY, Yd, Zy, Zz, JJ, JL, JM, JK, YU, Yo, Ye, Yf, YS, YT, YO, YP, Yy, Yz, Yk, Yl, Yp, Yq, JP, JO, Yh, Yg, Nat.reduceSub, Nat.reduceAdd, Zv, ZN, JB, Zb, Zs]
  exact ZEc g h e k
end
end TC

namespace TC
open PySem
theorem Xz {m : Nat} {ts : Ties} (w : Web m ts) (p : Nat × Nat → Bool) : Web m (ts.filter p) := ⟨w.1.filter _, fun t ht => w.2 t (List.mem_filter.mp ht).1⟩
theorem WY {m : Nat} {ts : Ties} {t : Nat × Nat} (w : Web m ts) (nt : t ∉ ts) (h : t.1 < t.2 ∧ t.2 < m) : Web m (ts ++ [t]) := by
  refine ⟨List.nodup_append.mpr ⟨w.1, List.pairwise_singleton _ _, fun a ha b hb e => nt (List.mem_singleton.mp hb ▸ e ▸ ha)⟩, fun u hu => ?_⟩
  rcases List.mem_append.mp hu with hu | hu
  · exact w.2 u hu
  · rw [List.mem_singleton.mp hu]; exact h
noncomputable def nx (m a : Nat) : Nat := (a + 1) % m
theorem nx_lt {m a : Nat} (h : a < m) : nx m a < m := Nat.mod_lt _ (by lia)
theorem Vu {m a b : Nat} (ha : a < m) (hb : b < m) (h : nx m a = nx m b) : a = b := by
  unfold nx at h
  by_cases c1 : a + 1 < m <;> by_cases c2 : b + 1 < m
  · rw [Nat.mod_eq_of_lt c1, Nat.mod_eq_of_lt c2] at h; lia
  · rw [Nat.mod_eq_of_lt c1, show b + 1 = m by lia, Nat.mod_self] at h; lia
  · rw [Nat.mod_eq_of_lt c2, show a + 1 = m by lia, Nat.mod_self] at h; lia
  · lia
noncomputable def shf (m : Nat) (t : Nat × Nat) : Nat × Nat := tie (nx m t.1) (nx m t.2)
theorem ZAl {m : Nat} {ts : Ties} (w : Web m ts) : Web m (ts.map (shf m)) := by
  refine ⟨List.pairwise_map.mpr (w.1.imp_of_mem fun {a b} ha hb ne q => ?_), fun u hu => ?_⟩
  · have wa := w.2 a ha
    have wb := w.2 b hb
    rcases QE q with q | q
    · exact ne (Prod.ext (Vu (by lia) (by lia) q.1) (Vu (by lia) (by lia) q.2))
    · have h1 := Vu (by lia) (by lia) q.1
      have h2 := Vu (by lia) (by lia) q.2
      lia
  · obtain ⟨t, ht, rfl⟩ := List.mem_map.mp hu
    have wt := w.2 t ht
    exact VU (fun q => by have := Vu (by lia) (by lia) q; lia) (nx_lt (by lia)) (nx_lt (by lia))
noncomputable abbrev wl (ws : Ties) : PyData := .list (ofPairs ws)
theorem Wi {step : Rho → (Option PyData → Prop) → Prop} {ρ : Rho} {K : V → Prop} (g : Nat × Nat → Nat × Nat) (ts : Ties) : ∀ (as : Ties), (∀ t ∈ ts, ∀ k : Option PyData → Prop, k (some (pr (g t))) → step (ρ ++ [some (.d (.int t.1)), some (.d (.int t.2))]) k) →
    as.length + ts.length < 1000 → K (.own (.list (ofPairs (as ++ ts.map g)))) → compW step (some 2) ρ K ((ofPairs ts).map .d) (ofPairs as) := by
  induction ts with
  | nil => intro as _ hl h; rw [List.map_nil, List.append_nil] at h; exact ⟨Yv (by rw [Yr]; exact hl), h⟩
  | cons t ts ih =>
    intro as h hl hk
    rw [List.length_cons] at hl
    refine h t (.head _) _ ?_
    rw [List.map_cons, ← List.singleton_append, ← List.append_assoc] at hk
    have := ih (as ++ [g t]) (fun u hu => h u (.tail _ hu)) (by rw [List.length_append, List.length_singleton]; lia) hk
    rw [← JF] at this
    exact this
theorem Wj {step : Rho → (Option PyData → Prop) → Prop} {ρ : Rho} {K : V → Prop} (p : Ties → Bool) (cs : List Ties) : ∀ (as : List PyData), (∀ c ∈ cs, ∀ k : Option PyData → Prop, k (cond (p c) (some (wl c)) none) → step (ρ ++ [some (.d (wl c))]) k) →
    as.length + cs.length < 1000 → K (.own (.list (as ++ (cs.filter p).map wl))) → compW step none ρ K ((cs.map wl).map .d) as := by
  induction cs with
  | nil => intro as _ hl h; rw [List.filter_nil, List.map_nil, List.append_nil] at h; exact ⟨Yv hl, h⟩
  | cons c cs ih =>
    intro as h hl hk
    rw [List.length_cons] at hl
    refine h c (.head _) _ ?_
    rw [List.filter_cons] at hk
    cases q : p c with
    | false => rw [q, if_neg (by decide)] at hk; exact ih as (fun u hu => h u (.tail _ hu)) (by lia) hk
    | true =>
      rw [q, if_pos rfl, List.map_cons, ← List.singleton_append, ← List.append_assoc] at hk
      exact ih (as ++ [wl c]) (fun u hu => h u (.tail _ hu)) (by rw [List.length_append, List.length_singleton]; lia) hk
theorem wl_snoc (wss : List Ties) (ws : Ties) : wss.map wl ++ [wl ws] = (wss ++ [ws]).map wl := by rw [List.map_append]; rfl
section
variable {n : Nat} {hm : Bool} {K : V → Prop} {X : Nat → Prop}
noncomputable abbrev otR (m : Nat) (one : Ties) (c : Int) (t : PyData) (wss : List Ties) (a b : Option V) : Rho := [some (.d (.int m)), some (.d (.list (ofPairs one))), some (.d (.int c)), some (.d t), some (.own (.list (wss.map wl))), a, b]
theorem WN {m : Nat} (hz : m ≤ 10) {one : Ties} (w : Web m one) {c : Int} {t : PyData} {wss : List Ties} (ww : ∀ ws ∈ wss, Web m ws) (lw : wss.length ≤ 2) {a b : Option V}
    (k : ∀ wss : List Ties, (∀ ws ∈ wss, Web m ws ∧ ctL m one ≠ ctL m ws) → wss.length ≤ 3 → K (.own (.list (wss.map wl)))) :
    wpSs (wpCall T06 (n + 1)) false b__law_others_v (otR m one c t wss a b) (outK K) (fun c _ => X c) := by
  have hl := JT w hz
  have l1 : ((ofPairs one).map V.d).length < lim := by rw [List.length_map]; exact Jb (by lia)
  dsimp only [b__law_others_v, wpSs, wpS, wpE, wpL, slotW, ownS, Rho.putL, frz, bindF, setD, setAll, bindT, F1.W, F2.W, F1.quiet, seqV, numW, isNon, Yx, Yu, Zu, Zt, YN, Zq, Zo, Zp, Za, ZM, YA, ZT, ZR, ZS, YM, Zl, ZY, ZX, ZH, ZG, YL, Zc, Zw, ZO, Yw, YB, Ys, ZP, ZQ, ZI, ZJ, Zd, Ze, Zm, Yt, Zn, Zk, ZK, ZZ, YE, YF, Zj, Zi, YG, YD, ZW, Zh, Zg, JA, YC, ZU, ZF, ZD, ZE, ZC, ZA, ZB, ZV, excIs, JN, YH, YI, Zf, Zr, YJ, YK, YZ, Ya, YQ, YR, YV, YW, Ym, Yn, Yb, Yc, Yi, Yj, YX, YY, Yd, Zy, Zz, JJ, JL, JM, JK, YU, Yo, Ye, Yf, YS, YT, YO, YP, Yy, Yz, Yk, Yl, Yp, Yq, JP, JO, Yh, Yg, Nat.reduceSub, Nat.reduceAdd, Zv, ZN, JB, Zb, Zs]
  refine ⟨l1, Wi (shf m) one [] (fun t ht kk hk => ?_) (by simp only [List.length_nil]; lia) ?_⟩
  · have wt := w.2 t ht
    have e : ∀ x : Nat, ((x : Int) + 1).fmod m = (nx m x : Int) := fun x => by
      rw [Int.fmod_eq_emod_of_nonneg _ (by lia)]; unfold nx; rw [Int.natCast_emod, Int.natCast_add]; rfl
    dsimp only [wpSs, wpS, wpE, wpL, slotW, ownS, Rho.putL, frz, bindF, setD, setAll, bindT, F1.W, F2.W, F1.quiet, seqV, numW, isNon, Yx, Yu, Zu, Zt, YN, Zq, Zo, Zp, Za, ZM, YA, ZT, ZR, ZS, YM, Zl, ZY, ZX, ZH, ZG, YL, Zc, Zw, ZO, Yw, YB, Ys, ZP, ZQ, ZI, ZJ, Zd, Ze, Zm, Yt, Zn, Zk, ZK, ZZ, YE, YF, Zj, Zi, YG, YD, ZW, Zh, Zg, JA, YC, ZU, ZF, ZD, ZE, ZC, ZA, ZB, ZV, excIs, JN, YH, YI, Zf, Zr, YJ, YK, YZ, Ya, YQ, YR, YV, YW, Ym, Yn, Yb, Yc, Yi, Yj, YX, YY, Yd, Zy, Zz, JJ, JL, JM, JK, YU, Yo, Ye, Yf, YS, YT, YO, YP, Yy, Yz, Yk, Yl, Yp, Yq, JP, JO, Yh, Yg, Nat.reduceSub, Nat.reduceAdd, Zv, ZN, JB, Zb, Zs]
    rw [e, e]
    refine ⟨by lia, by lia, ?_⟩
    exact JY (nx m t.1) (nx m t.2) hk
  · rw [List.nil_append]
    dsimp only [wpSs, wpS, wpE, wpL, slotW, ownS, Rho.putL, frz, bindF, setD, setAll, bindT, F1.W, F2.W, F1.quiet, seqV, numW, isNon, Yx, Yu, Zu, Zt, YN, Zq, Zo, Zp, Za, ZM, YA, ZT, ZR, ZS, YM, Zl, ZY, ZX, ZH, ZG, YL, Zc, Zw, ZO, Yw, YB, Ys, ZP, ZQ, ZI, ZJ, Zd, Ze, Zm, Yt, Zn, Zk, ZK, ZZ, YE, YF, Zj, Zi, YG, YD, ZW, Zh, Zg, JA, YC, ZU, ZF, ZD, ZE, ZC, ZA, ZB, ZV, excIs, JN, YH, YI, Zf, Zr, YJ, YK, YZ, Ya, YQ, YR, YV, YW, Ym, Yn, Yb, Yc, Yi, Yj, YX, YY, Yd, Zy, Zz, JJ, JL, JM, JK, YU, Yo, Ye, Yf, YS, YT, YO, YP, Yy, Yz, Yk, Yl, Yp, Yq, JP, JO, Yh, Yg, Nat.reduceSub, Nat.reduceAdd, Zv, ZN, JB, Zb, Zs]
    refine (show _ ∧ _ from ⟨Yv (by rw [List.length_map]; lia), ?_⟩)
    rw [show wss.map wl ++ [.list (ofPairs (one.map (shf m)))] = (wss ++ [one.map (shf m)]).map wl from wl_snoc wss _]
    have wa : ∀ ws ∈ wss ++ [one.map (shf m)], Web m ws := fun ws hw => (List.mem_append.mp hw).elim (ww ws) fun q => by rw [List.mem_singleton.mp q]; exact ZAl w
    have la : (wss ++ [one.map (shf m)]).length ≤ 3 := by rw [List.length_append, List.length_singleton]; lia
    generalize wss ++ [one.map (shf m)] = wss' at *
    refine (show _ ∧ _ from ⟨by rw [List.length_map, List.length_map]; exact Yv (by lia), ?_⟩)
    refine Wj (fun ws => !decide (ctL m ws = ctL m one)) wss' [] (fun ws hw kk hk => ?_) (by simp only [List.length_nil]; lia) ?_
    · have lq := JT (wa ws hw) hz
      dsimp only [wpSs, wpS, wpE, wpL, slotW, ownS, Rho.putL, frz, bindF, setD, setAll, bindT, F1.W, F2.W, F1.quiet, seqV, numW, isNon, Yx, Yu, Zu, Zt, YN, Zq, Zo, Zp, Za, ZM, YA, ZT, ZR, ZS, YM, Zl, ZY, ZX, ZH, ZG, YL, Zc, Zw, ZO, Yw, YB, Ys, ZP, ZQ, ZI, ZJ, Zd, Ze, Zm, Yt, Zn, Zk, ZK, ZZ, YE, YF, Zj, Zi, YG, YD, ZW, Zh, Zg, JA, YC, ZU, ZF, ZD, ZE, ZC, ZA, ZB, ZV, excIs, JN, YH, YI, Zf, Zr, YJ, YK, YZ, Ya, YQ, YR, YV, YW, Ym, Yn, Yb, Yc, Yi, Yj, YX, YY, Yd, Zy, Zz, JJ, JL, JM, JK, YU, Yo, Ye, Yf, YS, YT, YO, YP, Yy, Yz, Yk, Yl, Yp, Yq, JP, JO, Yh, Yg, Nat.reduceSub, Nat.reduceAdd, Zv, ZN, JB, Zb, Zs]
      refine Qn m hz ws (by lia) (Qn m hz one (by lia) ?_)
      rw [Zf]
      refine UT rfl rfl ?_
      revert hk
      cases decide (ctL m ws = ctL m one) <;> exact id
    · rw [List.nil_append]
      refine k _ (fun ws hw => ?_) (Nat.le_trans (List.length_filter_le ..) la)
      have h := List.mem_filter.mp hw
      exact ⟨wa ws h.1, fun q => by rw [decide_eq_true q.symm] at h; exact nomatch h.2⟩
theorem Gy {ts : Ties} {i : Int} {K : V → Prop} (h0 : 0 ≤ i) (h1 : i < 1000) (h2 : i < ts.length) (k : ∀ t ∈ ts, K (.d (pr t))) : got (idxV (.d (.list (ofPairs ts))) i) K := by
  rw [QO h0 h1]
  have lt : i.toNat < ts.length := by lia
  unfold ofPairs
  rw [List.getElem?_map, List.getElem?_eq_getElem lt]
  exact k _ (List.getElem_mem _)
theorem Vi (ts : Ties) : (ofPairs ts).isEmpty = ts.isEmpty := by cases ts <;> rfl
theorem ZCw {m : Nat} (hz : m ≤ 10) {one : Ties} (w : Web m one) {c : Int} {t : PyData} {ws : Ties} (ww : Web m ws) {free : Ties} (hf : ∀ t ∈ free, t ∉ one ∧ t.1 < t.2 ∧ t.2 < m) (lf : free.length ≤ 6) {b : Option V}
    (k : ∀ wss : List Ties, (∀ ws ∈ wss, Web m ws ∧ ctL m one ≠ ctL m ws) → wss.length ≤ 3 → K (.own (.list (wss.map wl)))) :
    wpSs (wpCall T06 (n + 1)) false b__law_others_u (otR m one c t [ws] (some (.d (.list (ofPairs free)))) b) (outK K) (fun c _ => X c) := by
  have hl := JT w hz
  have no := fun b => WN (n := n) (X := X) hz w (c := c) (t := t) (wss := [ws]) (a := some (.d (.list (ofPairs free)))) (b := b) (fun v hv => by rw [List.mem_singleton.mp hv]; exact ww) (show 1 ≤ 2 by decide) k
  dsimp only [b__law_others_u, wpSs, wpS, wpE, wpL, slotW, ownS, Rho.putL, frz, bindF, setD, setAll, bindT, F1.W, F2.W, F1.quiet, seqV, numW, isNon, Yx, Yu, Zu, Zt, YN, Zq, Zo, Zp, Za, ZM, YA, ZT, ZR, ZS, YM, Zl, ZY, ZX, ZH, ZG, YL, Zc, Zw, ZO, Yw, YB, Ys, ZP, ZQ, ZI, ZJ, Zd, Ze, Zm, Yt, Zn, Zk, ZK, ZZ, YE, YF, Zj, Zi, YG, YD, ZW, Zh, Zg, JA, YC, ZU, ZF, ZD, ZE, ZC, ZA, ZB, ZV, excIs, JN, YH, YI, Zf, Zr, YJ, YK, YZ, Ya, YQ, YR, YV, YW, Ym, Yn, Yb, Yc, Yi, Yj, YX, YY, Yd, Zy, Zz, JJ, JL, JM, JK, YU, Yo, Ye, Yf, YS, YT, YO, YP, Yy, Yz, Yk, Yl, Yp, Yq, JP, JO, Yh, Yg, Nat.reduceSub, Nat.reduceAdd, Zv, ZN, JB, Zb, Zs]
  refine WJ rfl (Sh.pairs 0 _) (by decide) ?_
  rw [Vi, Yw]
  cases eo : one.isEmpty with
  | true => exact no _
  | false =>
    rw [JK, JJ]
    refine WJ rfl (Sh.pairs 0 _) (by decide) ?_
    rw [Vi, Yw]
    cases ef : free.isEmpty with
    | true => exact no _
    | false =>
      have p1 : 0 < one.length := by cases one with | nil => exact nomatch eo | cons => exact Nat.succ_pos _
      have p2 : 0 < free.length := by cases free with | nil => exact nomatch ef | cons => exact Nat.succ_pos _
      have x0 := fmod_nonneg' (a := c.fdiv 16) (b := one.length) (by lia)
      have x1 := fmod_lt' (a := c.fdiv 16) (b := one.length) (by lia)
      have y0 := fmod_nonneg' (a := c.fdiv 64) (b := free.length) (by lia)
      have y1 := fmod_lt' (a := c.fdiv 64) (b := free.length) (by lia)
      rw [JK, JJ, Yr]
      refine (show _ ∧ _ from ⟨⟨by decide, by decide⟩, Yv (by lia), by lia, ?_⟩)
      refine Gy x0 (by lia) x1 fun go hgo => ?_
      dsimp only [wpSs, wpS, wpE, wpL, slotW, ownS, Rho.putL, frz, bindF, setD, setAll, bindT, F1.W, F2.W, F1.quiet, seqV, numW, isNon, Yx, Yu, Zu, Zt, YN, Zq, Zo, Zp, Za, ZM, YA, ZT, ZR, ZS, YM, Zl, ZY, ZX, ZH, ZG, YL, Zc, Zw, ZO, Yw, YB, Ys, ZP, ZQ, ZI, ZJ, Zd, Ze, Zm, Yt, Zn, Zk, ZK, ZZ, YE, YF, Zj, Zi, YG, YD, ZW, Zh, Zg, JA, YC, ZU, ZF, ZD, ZE, ZC, ZA, ZB, ZV, excIs, JN, YH, YI, Zf, Zr, YJ, YK, YZ, Ya, YQ, YR, YV, YW, Ym, Yn, Yb, Yc, Yi, Yj, YX, YY, Yd, Zy, Zz, JJ, JL, JM, JK, YU, Yo, Ye, Yf, YS, YT, YO, YP, Yy, Yz, Yk, Yl, Yp, Yq, JP, JO, Yh, Yg, Nat.reduceSub, Nat.reduceAdd, Zv, ZN, JB, Zb, Zs]
      refine (show _ ∧ _ from ⟨by rw [List.length_map]; exact Jb (by lia), ?_⟩)
      refine Js (fun u => !decide (u = go)) one [] (fun u hu kk hk => ?_) (by simp only [List.length_nil]; lia) ?_
      · dsimp only [wpSs, wpS, wpE, wpL, slotW, ownS, Rho.putL, frz, bindF, setD, setAll, bindT, F1.W, F2.W, F1.quiet, seqV, numW, isNon, Yx, Yu, Zu, Zt, YN, Zq, Zo, Zp, Za, ZM, YA, ZT, ZR, ZS, YM, Zl, ZY, ZX, ZH, ZG, YL, Zc, Zw, ZO, Yw, YB, Ys, ZP, ZQ, ZI, ZJ, Zd, Ze, Zm, Yt, Zn, Zk, ZK, ZZ, YE, YF, Zj, Zi, YG, YD, ZW, Zh, Zg, JA, YC, ZU, ZF, ZD, ZE, ZC, ZA, ZB, ZV, excIs, JN, YH, YI, Zf, Zr, YJ, YK, YZ, Ya, YQ, YR, YV, YW, Ym, Yn, Yb, Yc, Yi, Yj, YX, YY, Yd, Zy, Zz, JJ, JL, JM, JK, YU, Yo, Ye, Yf, YS, YT, YO, YP, Yy, Yz, Yk, Yl, Yp, Yq, JP, JO, Yh, Yg, Nat.reduceSub, Nat.reduceAdd, Zv, ZN, JB, Zb, Zs]
        refine ZCs ?_
        revert hk
        cases decide (u = go) <;> exact id
      · rw [List.nil_append, Yr]
        refine (show _ ∧ _ from ⟨⟨by decide, by decide⟩, Yv (by lia), by lia, ?_⟩)
        refine Gy y0 (by lia) y1 fun f hfm => ?_
        obtain ⟨f1, f2⟩ := hf f hfm
        have fl : (one.filter fun u => !decide (u = go)).length ≤ one.length := List.length_filter_le ..
        refine (show _ ∧ _ from ⟨Yv (by rw [Yr]; simp only [List.length_cons, List.length_nil]; lia), ?_⟩)
        refine (show _ ∧ _ from ⟨Yv (by decide), ?_⟩)
        rw [show ofPairs (one.filter fun u => !decide (u = go)) ++ [pr f] = ofPairs ((one.filter fun u => !decide (u = go)) ++ [f]) from JF _ [f]]
        have w2 : Web m ((one.filter fun u => !decide (u = go)) ++ [f]) := WY (Xz w _) (fun q => f1 (List.mem_filter.mp q).1) f2
        exact WN (wss := [ws, (one.filter fun u => !decide (u = go)) ++ [f]]) hz w (fun v hv => by
          rcases List.mem_cons.mp hv with rfl | hv
          · exact ww
          · rw [List.mem_singleton.mp hv]; exact w2) (show 2 ≤ 2 by decide) k
noncomputable def freeL : Ties := [(0, 1), (1, 2), (0, 2), (2, 3), (1, 3), (0, 3)]
theorem zfree {m : Nat} {one : Ties} {ρ : Rho} {K : V → Prop} (h0 : ∀ x y, (ρ ++ [x, y])[0]? = some (some (.d (.int m)))) (h1 : ∀ x y, (ρ ++ [x, y])[1]? = some (some (.d (.list (ofPairs one))))) (h7 : ∀ x y, (ρ ++ [x, y])[7]? = some x) (h8 : ∀ x y, (ρ ++ [x, y])[8]? = some y) (ps : Ties) : ∀ (as : Ties), as.length + ps.length < 1000 →
    K (.own (.list (ofPairs (as ++ ps.filter fun t => decide (t.2 < m) && !decide (t ∈ one))))) →
    zcompW (fun ρ' k => tstW (wpL (wpCall T06 (n + 1)) false (fun _ => False) (.cons (.and (.cons (.cmp (.nm 8) [.lt] (.cons (.nm 0) .nil)) (.cons (.cmp (.tup (.cons (.nm 7) (.cons (.nm 8) .nil))) [.notin] (.cons (.nm 1) .nil)) .nil))) .nil) ρ') (seqW (wpL (wpCall T06 (n + 1)) false (fun _ => False) (.cons (.nm 7) (.cons (.nm 8) .nil)) ρ') fun vs => got (keepAll vs) fun ys => ys.all atom = true ∧ k (some (.tuple ys))) (k none)) ρ K (ps.map fun t => (V.d (.int t.1), V.d (.int t.2))) (ofPairs as) := by
  induction ps with
  | nil => intro as hl h; rw [List.filter_nil, List.append_nil] at h; exact ⟨Yv (by rw [Yr]; exact hl), h⟩
  | cons t ps ih =>
    intro as hl hk
    rw [List.length_cons] at hl
    rw [List.filter_cons] at hk
    show got (_[8]?) _
    rw [h8]
    show got (_[0]?) _
    rw [h0]
    show cond (decide ((t.2 : Int) < m)) _ _
    have no : (decide (t.2 < m) && !decide (t ∈ one)) = false → zcompW _ ρ K (ps.map fun t => (V.d (.int t.1), V.d (.int t.2))) (ofPairs as) := fun e => by
      rw [e, if_neg (by decide)] at hk
      exact ih as (by lia) hk
    by_cases c1 : t.2 < m
    · rw [decide_eq_true (show (t.2 : Int) < m by lia)]
      rw [decide_eq_true c1] at hk no
      show got (_[7]?) _
      rw [h7]
      show got (_[8]?) _
      rw [h8]
      show got (_[1]?) _
      rw [h1]
      rw [Yx, Yx, YN]
      refine Qx (t := t) (w := .d (.list (ofPairs one))) (ts := one) rfl ?_
      by_cases c2 : t ∈ one
      · rw [decide_eq_true c2] at hk no ⊢
        exact no rfl
      · rw [decide_eq_false c2] at hk ⊢
        rw [if_pos (show (true && !false) = true from rfl), ← List.singleton_append, ← List.append_assoc] at hk
        show got (_[7]?) _
        rw [h7]
        show got (_[8]?) _
        rw [h8]
        refine (show _ ∧ _ from ⟨rfl, ?_⟩)
        have := ih (as ++ [t]) (by rw [List.length_append, List.length_singleton]; lia) hk
        rw [← JF] at this
        exact this
    · rw [decide_eq_false (show ¬ (t.2 : Int) < m by lia)]
      exact no (by rw [decide_eq_false c1]; rfl)
theorem UX {m : Nat} (h2 : 1 < m) (hz : m ≤ 10) {one : Ties} (w : Web m one) {c : Int}
    (k : ∀ wss : List Ties, (∀ ws ∈ wss, Web m ws ∧ ctL m one ≠ ctL m ws) → wss.length ≤ 3 → K (.own (.list (wss.map wl)))) :
    wpCall T06 (n + 2) false 27 [.d (.int m), .d (.list (ofPairs one)), .d (.int c)] K X := by
  have hl := JT w hz
  refine JC (fn := f__law_others) rfl rfl (by decide) ?_
  dsimp only [f__law_others, b__law_others, wpSs, wpS, wpE, wpL, slotW, ownS, Rho.putL, frz, bindF, setD, setAll, bindT, F1.W, F2.W, F1.quiet, seqV, numW, isNon, Yx, Yu, Zu, Zt, YN, Zq, Zo, Zp, Za, ZM, YA, ZT, ZR, ZS, YM, Zl, ZY, ZX, ZH, ZG, YL, Zc, Zw, ZO, Yw, YB, Ys, ZP, ZQ, ZI, ZJ, Zd, Ze, Zm, Yt, Zn, Zk, ZK, ZZ, YE, YF, Zj, Zi, YG, YD, ZW, Zh, Zg, JA, YC, ZU, ZF, ZD, ZE, ZC, ZA, ZB, ZV, excIs, JN, YH, YI, Zf, Zr, YJ, YK, YZ, Ya, YQ, YR, YV, YW, Ym, Yn, Yb, Yc, Yi, Yj, YX, YY, Yd, Zy, Zz, JJ, JL, JM, JK, YU, Yo, Ye, Yf, YS, YT, YO, YP, Yy, Yz, Yk, Yl, Yp, Yq, JP, JO, Yh, Yg, Nat.reduceSub, Nat.reduceAdd, Zv, ZN, JB, Zb, Zs]
  have em : (m : Int) - 1 = ((m - 1 : Nat) : Int) := by lia
  rw [em]
  have x0 := fmod_nonneg' (a := c.fdiv 8) (b := ((m - 1 : Nat) : Int)) (by lia)
  have x1 := fmod_lt' (a := c.fdiv 8) (b := ((m - 1 : Nat) : Int)) (by lia)
  obtain ⟨t1, et⟩ : ∃ t1 : Nat, (c.fdiv 8).fmod ((m - 1 : Nat) : Int) = t1 := ⟨((c.fdiv 8).fmod ((m - 1 : Nat) : Int)).toNat, by lia⟩
  rw [et]
  refine ⟨⟨by decide, by decide⟩, by lia, ?_⟩
  obtain ⟨t0, e0⟩ : ∃ t0 : Nat × Nat, t0 = (t1, m - 1) := ⟨_, rfl⟩
  have l0 : t0.1 < t0.2 ∧ t0.2 < m := by rw [e0]; dsimp only; lia
  rw [show PyData.tuple [.int (t1 : Int), .int ((m - 1 : Nat) : Int)] = pr t0 by rw [e0]]
  refine (show _ ∧ _ from ⟨by rw [List.length_map]; exact Jb (by lia), ?_⟩)
  refine Js (fun u => !decide (u = t0)) one [] (fun u hu kk hk => ?_) (by simp only [List.length_nil]; lia) ?_
  · dsimp only [wpSs, wpS, wpE, wpL, slotW, ownS, Rho.putL, frz, bindF, setD, setAll, bindT, F1.W, F2.W, F1.quiet, seqV, numW, isNon, Yx, Yu, Zu, Zt, YN, Zq, Zo, Zp, Za, ZM, YA, ZT, ZR, ZS, YM, Zl, ZY, ZX, ZH, ZG, YL, Zc, Zw, ZO, Yw, YB, Ys, ZP, ZQ, ZI, ZJ, Zd, Ze, Zm, Yt, Zn, Zk, ZK, ZZ, YE, YF, Zj, Zi, YG, YD, ZW, Zh, Zg, JA, YC, ZU, ZF, ZD, ZE, ZC, ZA, ZB, ZV, excIs, JN, YH, YI, Zf, Zr, YJ, YK, YZ, Ya, YQ, YR, YV, YW, Ym, Yn, Yb, Yc, Yi, Yj, YX, YY, Yd, Zy, Zz, JJ, JL, JM, JK, YU, Yo, Ye, Yf, YS, YT, YO, YP, Yy, Yz, Yk, Yl, Yp, Yq, JP, JO, Yh, Yg, Nat.reduceSub, Nat.reduceAdd, Zv, ZN, JB, Zb, Zs]
    refine ZCs ?_
    revert hk
    cases decide (u = t0) <;> exact id
  · rw [List.nil_append]
    have fl : (one.filter fun u => !decide (u = t0)).length ≤ one.length := List.length_filter_le ..
    have wf := Xz w fun u => !decide (u = t0)
    have go : ∀ ws : Ties, Web m ws → wpSs (wpCall T06 (n + 1)) false b__law_others_t (otR m one c (pr t0) [ws] none none) (outK K) (fun c _ => X c) := fun ws ww => by
      dsimp only [b__law_others_t, zipL, wpSs, wpS, wpE, wpL, slotW, ownS, Rho.putL, frz, bindF, setD, setAll, bindT, F1.W, F2.W, F1.quiet, seqV, numW, isNon, Yx, Yu, Zu, Zt, YN, Zq, Zo, Zp, Za, ZM, YA, ZT, ZR, ZS, YM, Zl, ZY, ZX, ZH, ZG, YL, Zc, Zw, ZO, Yw, YB, Ys, ZP, ZQ, ZI, ZJ, Zd, Ze, Zm, Yt, Zn, Zk, ZK, ZZ, YE, YF, Zj, Zi, YG, YD, ZW, Zh, Zg, JA, YC, ZU, ZF, ZD, ZE, ZC, ZA, ZB, ZV, excIs, JN, YH, YI, Zf, Zr, YJ, YK, YZ, Ya, YQ, YR, YV, YW, Ym, Yn, Yb, Yc, Yi, Yj, YX, YY, Yd, Zy, Zz, JJ, JL, JM, JK, YU, Yo, Ye, Yf, YS, YT, YO, YP, Yy, Yz, Yk, Yl, Yp, Yq, JP, JO, Yh, Yg, Nat.reduceSub, Nat.reduceAdd, Zv, ZN, JB, Zb, Zs]
      refine (show _ ∧ _ from ⟨Yv (by decide), ?_⟩)
      refine zfree (n := n) (ρ := otR m one c (pr t0) [ws] none none) (fun _ _ => rfl) (fun _ _ => rfl) (fun _ _ => rfl) (fun _ _ => rfl) freeL [] (by decide) ?_
      rw [List.nil_append]
      refine ZCw hz w ww (fun t ht => ?_) (Nat.le_trans (List.length_filter_le ..) (by decide)) k
      have h := List.mem_filter.mp ht
      have h3 := Bool.and_eq_true_iff.mp h.2
      refine ⟨of_decide_eq_false (He h3.2), ?_, of_decide_eq_true h3.1⟩
      have : ∀ t ∈ freeL, t.1 < t.2 := by decide
      exact this t h.1
    refine XR (w := .d (.list (ofPairs one))) (t := t0) rfl ?_
    by_cases ci : t0 ∈ one
    · rw [decide_eq_true ci]
      refine (show _ ∧ _ from ⟨⟨by decide, JR (by decide), Yv (show 1 * 0 < 1000 by decide)⟩, ?_⟩)
      refine (show _ ∧ _ from ⟨Yv (show (ofPairs (one.filter fun u => !decide (u = t0))).length + 0 < 1000 by rw [Yr]; lia), ?_⟩)
      refine (show wpSs _ _ _ [_, _, _, _, some (.own (.list [.list (ofPairs (one.filter fun u => !decide (u = t0)) ++ [])])), _, _] _ _ from ?_)
      rw [List.append_nil]
      exact go _ wf
    · rw [decide_eq_false ci]
      refine (show _ ∧ _ from ⟨⟨by decide, JR (by decide), Yv (show 1 * 1 < 1000 by decide)⟩, ?_⟩)
      refine (show _ ∧ _ from ⟨Yv (show (ofPairs (one.filter fun u => !decide (u = t0))).length + 1 < 1000 by rw [Yr]; lia), ?_⟩)
      refine (show wpSs _ _ _ [_, _, _, _, some (.own (.list [.list (ofPairs (one.filter fun u => !decide (u = t0)) ++ [pr t0])])), _, _] _ _ from ?_)
      rw [show ofPairs (one.filter fun u => !decide (u = t0)) ++ [pr t0] = ofPairs ((one.filter fun u => !decide (u = t0)) ++ [t0]) from JF _ [t0]]
      exact go _ (WY wf (fun q => ci (List.mem_filter.mp q).1) l0)
end
end TC

namespace TC
open PySem
theorem ZGk {m : Int} {y : PyData} {b : List PyData} (h : tieB m y = false) {us : Ties} : ∀ {met : List (List Int)}, okW m ((ofPairs us ++ [y]) ++ b) met = false := by
  induction us with
  | nil => exact fun {met} => WK h
  | cons t us ih =>
    intro met
    show (tieB m (.tuple [.int t.1, .int t.2]) && (!met.contains [(t.1 : Int), t.2] && okW m ((ofPairs us ++ [y]) ++ b) (met ++ [[(t.1 : Int), t.2]]))) = false
    rw [ih, Bool.and_false, Bool.and_false]
theorem ZGl {m : Int} {us : Ties} : ∀ {met : List (List Int)}, okW m (ofPairs us) met = true → us.Nodup ∧ ∀ t ∈ us, [(t.1 : Int), t.2] ∉ met := by
  induction us with
  | nil => exact fun _ => ⟨.nil, nofun⟩
  | cons t us ih =>
    intro met h
    replace h : (tieB m (.tuple [.int t.1, .int t.2]) && (!met.contains [(t.1 : Int), t.2] && okW m (ofPairs us) (met ++ [[(t.1 : Int), t.2]]))) = true := h
    rw [Bool.and_eq_true, Bool.and_eq_true] at h
    obtain ⟨h1, h2⟩ := ih h.2.2
    have nm : [(t.1 : Int), t.2] ∉ met := fun q => by rw [List.contains_iff_mem.mpr q] at h; exact nomatch h.2.1
    refine ⟨List.nodup_cons.mpr ⟨fun q => h2 t q (List.mem_append_right _ (.head _)), h1⟩, fun t' ht => ?_⟩
    rcases List.mem_cons.mp ht with rfl | ht
    · exact nm
    · exact fun q => h2 t' ht (List.mem_append_left _ q)
theorem Ul {m : Int} {ys : List PyData} (h : okW m ys [] = false) : webB (.int m) (.list ys) = false := by
  show (_ && okW m ys []) = false; rw [h, Bool.and_false]
theorem ZAk {x y : PyData} (h : amongB x 1 10 = false) : webB x y = false := by
  cases x with
  | int i => cases y with
    | list ys => show (amongB (.int i) 1 10 && _) = false; rw [h]; rfl
    | _ => rfl
  | _ => rfl
theorem VS {m a b : Int} (h : ¬ (0 ≤ a ∧ a ≤ m - 1 ∧ 0 ≤ b ∧ b ≤ m - 1 ∧ a < b)) : tieB m (.tuple [.int a, .int b]) = false := by
  refine Bool.eq_false_iff.mpr fun q => h ?_
  replace q : (decide (0 ≤ a) && decide (a ≤ m - 1) && (decide (0 ≤ b) && decide (b ≤ m - 1)) && decide (a < b)) = true := q
  simp only [Bool.and_eq_true, decide_eq_true_eq] at q; omega
theorem ZAb {m a : Int} : tieB m (.tuple [.int a, .bool true]) = false := by
  show (amongB (.int a) 0 (m - 1) && false && false) = false
  exact Bool.and_false _
theorem Xh {ts : Ties} (hl : ts.length ≤ 100) {a b : PyData} : ShortL (.list (ofPairs ts ++ [.tuple [a, b]])) := by
  refine ⟨by rw [List.length_append, Yr]; simp only [List.length_cons, List.length_nil]; omega, fun z hz => ?_⟩
  rcases List.mem_append.mp hz with hz | hz
  · obtain ⟨t, _, rfl⟩ := List.mem_map.mp hz; exact (by decide : 2 < 1000)
  · rw [List.mem_singleton.mp hz]; exact (by decide : 2 < 1000)
noncomputable def twice (ts : Ties) : Ties := (ts ++ ts.take 1) ++ [((0, 0) : Nat × Nat)].drop ts.length
theorem UE (ts : Ties) : (twice ts).length ≤ ts.length + 2 := by
  unfold twice
  rw [List.length_append, List.length_append, List.length_take, List.length_drop]
  simp only [List.length_cons, List.length_nil]; omega
theorem ZDy {m : Nat} {ts : Ties} : webB (.int m) (.list (ofPairs (twice ts))) = false := by
  refine Ul (Bool.eq_false_iff.mpr fun ok => ?_)
  cases ts with
  | nil => exact absurd ok (by rw [show ofPairs (twice []) = [.tuple [.int 0, .int 0]] from rfl, WK (VS (by omega))]; decide)
  | cons t us =>
    have nd := (ZGl ok).1
    have e : twice (t :: us) = t :: (us ++ [t]) := by
      unfold twice
      rw [List.length_cons, List.drop_succ_cons, List.drop_nil, List.append_nil]; rfl
    rw [e] at nd
    exact (List.nodup_cons.mp nd).1 (List.mem_append_right _ (.head _))
noncomputable def wrongL (m : Nat) (ts : Ties) : List PyData := [.list [.tuple [.int 0, .int 0]], .none, .list (ofPairs ts ++ [.tuple [.int 0, .int m]]), .list [.tuple [.int 0, .bool true]], .list (ofPairs (twice ts))]
theorem ZEh {m : Nat} {ts : Ties} (hl : ts.length ≤ 100) : ∀ y ∈ wrongL m ts, webB (.int m) y = false ∧ ShortL y := by
  have app : ∀ {us : Ties} {a b : PyData}, tieB m (.tuple [a, b]) = false → webB (.int m) (.list (ofPairs us ++ [.tuple [a, b]])) = false := fun {us} {a b} h => Ul (by have := ZGk (b := []) (us := us) (met := []) h; rw [List.append_nil] at this; exact this)
  have tl := UE ts
  simp only [wrongL, List.forall_mem_cons]
  refine ⟨⟨Ul (WK (VS (by omega))), Xh (ts := []) (by decide)⟩, ⟨rfl, trivial⟩, ⟨app (VS (by omega)), Xh hl⟩, ⟨app (us := []) ZAb, Xh (ts := []) (by decide)⟩, ⟨ZDy, Xi (by omega)⟩, nofun⟩
noncomputable def noneL (c : Int) : List PyData := [.int 0, .int 11, .bool true, .none, .str "3", .int (11 + (c.fdiv 6).fmod 1000000000)]
theorem ZGd {c : Int} : ∀ y ∈ noneL c, amongB y 1 10 = false := by
  have x0 := fmod_nonneg' (a := c.fdiv 6) (b := 1000000000) (by decide)
  simp only [noneL, List.forall_mem_cons]
  refine ⟨rfl, rfl, rfl, rfl, rfl, ?_, nofun⟩
  show (decide (1 ≤ 11 + (c.fdiv 6).fmod 1000000000) && decide (11 + (c.fdiv 6).fmod 1000000000 ≤ 10)) = false
  rw [decide_eq_false (show ¬ (11 + (c.fdiv 6).fmod 1000000000 ≤ 10) by omega), Bool.and_false]
theorem shr {s t : Str} (h1 : Sh 1 (.str s)) (h2 : Sh 0 (.str t)) : Sh 2 (.tuple [.str s, .list [.str t]]) := .tuple fun z hz => by
  rcases List.mem_cons.mp hz with rfl | hz
  · exact h1
  · rw [List.mem_singleton.mp hz]; exact .list fun w hw => by rw [List.mem_singleton.mp hw]; exact h2
theorem Hr : Sh 2 refused := shr (.str _ (by decide +kernel)) (.str _ (by decide +kernel))
theorem ZHa : Sh 2 refU := shr (.str _ (by decide +kernel)) (.str _ (by decide +kernel))
section
variable {n : Nat} {hm : Bool} {K : V → Prop} {X : Nat → Prop}
theorem Gz {xs : List PyData} {i : Int} {K : V → Prop} (h0 : 0 ≤ i) (h1 : i < 1000) (h2 : i < xs.length) (k : ∀ y ∈ xs, K (.d y)) : got (idxV (.own (.list xs)) i) K := by
  rw [Xw h0 h1, List.getElem?_eq_getElem (by omega)]
  exact k _ (List.getElem_mem _)
noncomputable abbrev rfR (m : Nat) (one : Ties) (c : Int) (o w f s a b : Option V) : Rho := [some (.d (.int m)), some (.d (.list (ofPairs one))), some (.d (.int c)), o, w, f, s, a, b]
theorem ref_1 {m : Nat} {one ws us : Ties} {c : Int} {o w a b : Option V} (g : GW m ws) (h : GW m us) (e : ctL m ws ≠ ctL m us) {k : KS} (q : k .nxt (rfR m one c o w (some (.d (wl ws))) (some (.d (wl us))) a b)) :
    wpSs (wpCall T06 (n + 5)) false b__law_refused_1 (rfR m one c o w (some (.d (wl ws))) (some (.d (wl us))) a b) k (fun c _ => X c) := by
  dsimp only [b__law_refused_1, wpSs, wpS, wpE, wpL, slotW, ownS, Rho.putL, frz, bindF, setD, setAll, bindT, F1.W, F2.W, F1.quiet, seqV, numW, isNon, Yx, Yu, Zu, Zt, YN, Zq, Zo, Zp, Za, ZM, YA, ZT, ZR, ZS, YM, Zl, ZY, ZX, ZH, ZG, YL, Zc, Zw, ZO, Yw, YB, Ys, ZP, ZQ, ZI, ZJ, Zd, Ze, Zm, Yt, Zn, Zk, ZK, ZZ, YE, YF, Zj, Zi, YG, YD, ZW, Zh, Zg, JA, YC, ZU, ZF, ZD, ZE, ZC, ZA, ZB, ZV, excIs, JN, YH, YI, Zf, Zr, YJ, YK, YZ, Ya, YQ, YR, YV, YW, Ym, Yn, Yb, Yc, Yi, Yj, YX, YY, Yd, Zy, Zz, JJ, JL, JM, JK, YU, Yo, Ye, Yf, YS, YT, YO, YP, Yy, Yz, Yk, Yl, Yp, Yq, JP, JO, Yh, Yg, Nat.reduceSub, Nat.reduceAdd, Zv, ZN, JB, Zb, Zs]
  refine HP g h e ?_
  dsimp only [wpSs, wpS, wpE, wpL, slotW, ownS, Rho.putL, frz, bindF, setD, setAll, bindT, F1.W, F2.W, F1.quiet, seqV, numW, isNon, Yx, Yu, Zu, Zt, YN, Zq, Zo, Zp, Za, ZM, YA, ZT, ZR, ZS, YM, Zl, ZY, ZX, ZH, ZG, YL, Zc, Zw, ZO, Yw, YB, Ys, ZP, ZQ, ZI, ZJ, Zd, Ze, Zm, Yt, Zn, Zk, ZK, ZZ, YE, YF, Zj, Zi, YG, YD, ZW, Zh, Zg, JA, YC, ZU, ZF, ZD, ZE, ZC, ZA, ZB, ZV, excIs, JN, YH, YI, Zf, Zr, YJ, YK, YZ, Ya, YQ, YR, YV, YW, Ym, Yn, Yb, Yc, Yi, Yj, YX, YY, Yd, Zy, Zz, JJ, JL, JM, JK, YU, Yo, Ye, Yf, YS, YT, YO, YP, Yy, Yz, Yk, Yl, Yp, Yq, JP, JO, Yh, Yg, Nat.reduceSub, Nat.reduceAdd, Zv, ZN, JB, Zb, Zs]
  exact Xd rfl rfl ZHa (by decide) q
theorem ZDb {m : Nat} {one : Ties} (g : GW m one) {c : Int} {o a b : Option V} {Ko : KS} {wss : List Ties} : ∀ {w f s : Option V}, (∀ ws ∈ wss, Web m ws ∧ ctL m one ≠ ctL m ws) → (∀ w f s, Ko .nxt (rfR m one c o w f s a b)) →
    forW (fun x ρ' k => bindF (.one 4) x ρ' fun ρ'' => wpSs (wpCall T06 (n + 5)) false b__law_refused_2 ρ'' k (fun c _ => X c)) Ko ((wss.map wl).map .d) (rfR m one c o w f s a b) := by
  induction wss with
  | nil => exact fun _ h => h _ _ _
  | cons ws wss ih =>
    intro w f s hw h
    obtain ⟨w1, e1⟩ := hw ws (.head _)
    have lw := JT w1 g.le
    have gw : GW m ws := ⟨g.pos, g.le, w1, by omega⟩
    rw [show ((ws :: wss).map wl).map V.d = V.d (wl ws) :: (wss.map wl).map V.d from rfl]
    dsimp only [forW, b__law_refused_2, wpSs, wpS, wpE, wpL, slotW, ownS, Rho.putL, frz, bindF, setD, setAll, bindT, F1.W, F2.W, F1.quiet, seqV, numW, isNon, Yx, Yu, Zu, Zt, YN, Zq, Zo, Zp, Za, ZM, YA, ZT, ZR, ZS, YM, Zl, ZY, ZX, ZH, ZG, YL, Zc, Zw, ZO, Yw, YB, Ys, ZP, ZQ, ZI, ZJ, Zd, Ze, Zm, Yt, Zn, Zk, ZK, ZZ, YE, YF, Zj, Zi, YG, YD, ZW, Zh, Zg, JA, YC, ZU, ZF, ZD, ZE, ZC, ZA, ZB, ZV, excIs, JN, YH, YI, Zf, Zr, YJ, YK, YZ, Ya, YQ, YR, YV, YW, Ym, Yn, Yb, Yc, Yi, Yj, YX, YY, Yd, Zy, Zz, JJ, JL, JM, JK, YU, Yo, Ye, Yf, YS, YT, YO, YP, Yy, Yz, Yk, Yl, Yp, Yq, JP, JO, Yh, Yg, Nat.reduceSub, Nat.reduceAdd, Zv, ZN, JB, Zb, Zs]
    refine (show _ ∧ _ from ⟨Yv (by decide), ?_⟩)
    exact ref_1 g gw e1 (ref_1 gw g (Ne.symm e1) (ih (fun v hv => hw v (.tail _ hv)) h))
theorem ref_3 {m : Nat} {one : Ties} (g : GW m one) {c : Int} {o w f s : Option V} (q : K (.d (.bool true))) :
    wpSs (wpCall T06 (n + 5)) false b__law_refused_3 (rfR m one c o w f s none none) (outK K) (fun c _ => X c) := by
  have hl := JT g.web g.le
  have l1 : (ofPairs one).length < lim := Jb (by omega)
  have z0 := fmod_nonneg' (a := c) (b := 6) (by decide)
  have z1 := fmod_lt' (a := c) (b := 6) (by decide)
  have y0 := fmod_nonneg' (a := c) (b := 5) (by decide)
  have y1 := fmod_lt' (a := c) (b := 5) (by decide)
  dsimp only [b__law_refused_3, wpSs, wpS, wpE, wpL, slotW, ownS, Rho.putL, frz, bindF, setD, setAll, bindT, F1.W, F2.W, F1.quiet, seqV, numW, isNon, Yx, Yu, Zu, Zt, YN, Zq, Zo, Zp, Za, ZM, YA, ZT, ZR, ZS, YM, Zl, ZY, ZX, ZH, ZG, YL, Zc, Zw, ZO, Yw, YB, Ys, ZP, ZQ, ZI, ZJ, Zd, Ze, Zm, Yt, Zn, Zk, ZK, ZZ, YE, YF, Zj, Zi, YG, YD, ZW, Zh, Zg, JA, YC, ZU, ZF, ZD, ZE, ZC, ZA, ZB, ZV, excIs, JN, YH, YI, Zf, Zr, YJ, YK, YZ, Ya, YQ, YR, YV, YW, Ym, Yn, Yb, Yc, Yi, Yj, YX, YY, Yd, Zy, Zz, JJ, JL, JM, JK, YU, Yo, Ye, Yf, YS, YT, YO, YP, Yy, Yz, Yk, Yl, Yp, Yq, JP, JO, Yh, Yg, Nat.reduceSub, Nat.reduceAdd, Zv, ZN, JB, Zb, Zs]
  refine (show _ ∧ _ from ⟨⟨by decide, by decide⟩, by decide, by decide, ?_⟩)
  refine Gz (xs := noneL c) z0 (by omega) z1 fun y hy => ?_
  dsimp only [wpSs, wpS, wpE, wpL, slotW, ownS, Rho.putL, frz, bindF, setD, setAll, bindT, F1.W, F2.W, F1.quiet, seqV, numW, isNon, Yx, Yu, Zu, Zt, YN, Zq, Zo, Zp, Za, ZM, YA, ZT, ZR, ZS, YM, Zl, ZY, ZX, ZH, ZG, YL, Zc, Zw, ZO, Yw, YB, Ys, ZP, ZQ, ZI, ZJ, Zd, Ze, Zm, Yt, Zn, Zk, ZK, ZZ, YE, YF, Zj, Zi, YG, YD, ZW, Zh, Zg, JA, YC, ZU, ZF, ZD, ZE, ZC, ZA, ZB, ZV, excIs, JN, YH, YI, Zf, Zr, YJ, YK, YZ, Ya, YQ, YR, YV, YW, Ym, Yn, Yb, Yc, Yi, Yj, YX, YY, Yd, Zy, Zz, JJ, JL, JM, JK, YU, Yo, Ye, Yf, YS, YT, YO, YP, Yy, Yz, Yk, Yl, Yp, Yq, JP, JO, Yh, Yg, Nat.reduceSub, Nat.reduceAdd, Zv, ZN, JB, Zb, Zs]
  refine HO g.short (ZAk (ZGd y hy)) ?_
  dsimp only [wpSs, wpS, wpE, wpL, slotW, ownS, Rho.putL, frz, bindF, setD, setAll, bindT, F1.W, F2.W, F1.quiet, seqV, numW, isNon, Yx, Yu, Zu, Zt, YN, Zq, Zo, Zp, Za, ZM, YA, ZT, ZR, ZS, YM, Zl, ZY, ZX, ZH, ZG, YL, Zc, Zw, ZO, Yw, YB, Ys, ZP, ZQ, ZI, ZJ, Zd, Ze, Zm, Yt, Zn, Zk, ZK, ZZ, YE, YF, Zj, Zi, YG, YD, ZW, Zh, Zg, JA, YC, ZU, ZF, ZD, ZE, ZC, ZA, ZB, ZV, excIs, JN, YH, YI, Zf, Zr, YJ, YK, YZ, Ya, YQ, YR, YV, YW, Ym, Yn, Yb, Yc, Yi, Yj, YX, YY, Yd, Zy, Zz, JJ, JL, JM, JK, YU, Yo, Ye, Yf, YS, YT, YO, YP, Yy, Yz, Yk, Yl, Yp, Yq, JP, JO, Yh, Yg, Nat.reduceSub, Nat.reduceAdd, Zv, ZN, JB, Zb, Zs]
  refine Xd rfl rfl Hr (by decide) ?_
  refine (show _ ∧ _ from ⟨Yv (by rw [Yr]; simp only [List.length_cons, List.length_nil]; omega), ?_⟩)
  refine (show _ ∧ _ from ⟨⟨by decide, JR (by decide), l1⟩, ?_⟩)
  rw [show List.take (1 : Int).toNat (ofPairs one) = ofPairs (one.take 1) from QT one 1]
  refine (show _ ∧ _ from ⟨Yv (by rw [Yr, Yr, List.length_take]; omega), l1, ?_⟩)
  rw [Yr]
  refine (show _ ∧ _ from ⟨⟨Int.natCast_nonneg _, JR (by omega), Yv (by decide)⟩, ?_⟩)
  have e0 : List.drop ((one.length : Nat) : Int).toNat [PyData.tuple [.int 0, .int 0]] = ofPairs ([((0, 0) : Nat × Nat)].drop one.length) := by rw [Int.toNat_natCast, ← QS]; rfl
  rw [e0, JF]
  have tl := UE one
  have ll : (ofPairs (one ++ List.take 1 one)).length + (ofPairs ([((0, 0) : Nat × Nat)].drop one.length)).length < 1000 := by
    unfold twice at tl
    rw [List.length_append] at tl
    rw [Yr, Yr]; omega
  refine (show _ ∧ _ from ⟨Yv ll, ?_⟩)
  rw [JF]
  refine (show _ ∧ _ from ⟨by decide, ?_⟩)
  refine Gz (xs := wrongL m one) y0 (by omega) y1 fun y hy => ?_
  obtain ⟨b1, s1⟩ := ZEh g.len y hy
  dsimp only [wpSs, wpS, wpE, wpL, slotW, ownS, Rho.putL, frz, bindF, setD, setAll, bindT, F1.W, F2.W, F1.quiet, seqV, numW, isNon, Yx, Yu, Zu, Zt, YN, Zq, Zo, Zp, Za, ZM, YA, ZT, ZR, ZS, YM, Zl, ZY, ZX, ZH, ZG, YL, Zc, Zw, ZO, Yw, YB, Ys, ZP, ZQ, ZI, ZJ, Zd, Ze, Zm, Yt, Zn, Zk, ZK, ZZ, YE, YF, Zj, Zi, YG, YD, ZW, Zh, Zg, JA, YC, ZU, ZF, ZD, ZE, ZC, ZA, ZB, ZV, excIs, JN, YH, YI, Zf, Zr, YJ, YK, YZ, Ya, YQ, YR, YV, YW, Ym, Yn, Yb, Yc, Yi, Yj, YX, YY, Yd, Zy, Zz, JJ, JL, JM, JK, YU, Yo, Ye, Yf, YS, YT, YO, YP, Yy, Yz, Yk, Yl, Yp, Yq, JP, JO, Yh, Yg, Nat.reduceSub, Nat.reduceAdd, Zv, ZN, JB, Zb, Zs]
  refine ZFw g s1 b1 ?_
  dsimp only [wpSs, wpS, wpE, wpL, slotW, ownS, Rho.putL, frz, bindF, setD, setAll, bindT, F1.W, F2.W, F1.quiet, seqV, numW, isNon, Yx, Yu, Zu, Zt, YN, Zq, Zo, Zp, Za, ZM, YA, ZT, ZR, ZS, YM, Zl, ZY, ZX, ZH, ZG, YL, Zc, Zw, ZO, Yw, YB, Ys, ZP, ZQ, ZI, ZJ, Zd, Ze, Zm, Yt, Zn, Zk, ZK, ZZ, YE, YF, Zj, Zi, YG, YD, ZW, Zh, Zg, JA, YC, ZU, ZF, ZD, ZE, ZC, ZA, ZB, ZV, excIs, JN, YH, YI, Zf, Zr, YJ, YK, YZ, Ya, YQ, YR, YV, YW, Ym, Yn, Yb, Yc, Yi, Yj, YX, YY, Yd, Zy, Zz, JJ, JL, JM, JK, YU, Yo, Ye, Yf, YS, YT, YO, YP, Yy, Yz, Yk, Yl, Yp, Yq, JP, JO, Yh, Yg, Nat.reduceSub, Nat.reduceAdd, Zv, ZN, JB, Zb, Zs]
  refine Xd rfl rfl Hr (by decide) ?_
  refine (show wpCall _ _ _ _ [_, _, .d (.list [.tuple [.int 1, .int 0]])] _ _ from HO s1 b1 ?_)
  dsimp only [wpSs, wpS, wpE, wpL, slotW, ownS, Rho.putL, frz, bindF, setD, setAll, bindT, F1.W, F2.W, F1.quiet, seqV, numW, isNon, Yx, Yu, Zu, Zt, YN, Zq, Zo, Zp, Za, ZM, YA, ZT, ZR, ZS, YM, Zl, ZY, ZX, ZH, ZG, YL, Zc, Zw, ZO, Yw, YB, Ys, ZP, ZQ, ZI, ZJ, Zd, Ze, Zm, Yt, Zn, Zk, ZK, ZZ, YE, YF, Zj, Zi, YG, YD, ZW, Zh, Zg, JA, YC, ZU, ZF, ZD, ZE, ZC, ZA, ZB, ZV, excIs, JN, YH, YI, Zf, Zr, YJ, YK, YZ, Ya, YQ, YR, YV, YW, Ym, Yn, Yb, Yc, Yi, Yj, YX, YY, Yd, Zy, Zz, JJ, JL, JM, JK, YU, Yo, Ye, Yf, YS, YT, YO, YP, Yy, Yz, Yk, Yl, Yp, Yq, JP, JO, Yh, Yg, Nat.reduceSub, Nat.reduceAdd, Zv, ZN, JB, Zb, Zs]
  exact UL rfl rfl Hr (by decide) q
theorem Vw {m : Nat} {one : Ties} (g : GW m one) {c : Int} (q : K (.d (.bool true))) : wpCall T06 (n + 6) false 28 [.d (.int m), .d (.list (ofPairs one)), .d (.int c)] K X := by
  refine JC (fn := f__law_refused) rfl rfl (by decide) ?_
  dsimp only [f__law_refused, b__law_refused, wpSs, wpS, wpE, wpL, slotW, ownS, Rho.putL, frz, bindF, setD, setAll, bindT, F1.W, F2.W, F1.quiet, seqV, numW, isNon, Yx, Yu, Zu, Zt, YN, Zq, Zo, Zp, Za, ZM, YA, ZT, ZR, ZS, YM, Zl, ZY, ZX, ZH, ZG, YL, Zc, Zw, ZO, Yw, YB, Ys, ZP, ZQ, ZI, ZJ, Zd, Ze, Zm, Yt, Zn, Zk, ZK, ZZ, YE, YF, Zj, Zi, YG, YD, ZW, Zh, Zg, JA, YC, ZU, ZF, ZD, ZE, ZC, ZA, ZB, ZV, excIs, JN, YH, YI, Zf, Zr, YJ, YK, YZ, Ya, YQ, YR, YV, YW, Ym, Yn, Yb, Yc, Yi, Yj, YX, YY, Yd, Zy, Zz, JJ, JL, JM, JK, YU, Yo, Ye, Yf, YS, YT, YO, YP, Yy, Yz, Yk, Yl, Yp, Yq, JP, JO, Yh, Yg, Nat.reduceSub, Nat.reduceAdd, Zv, ZN, JB, Zb, Zs]
  refine Ji (fun gt => ?_) fun _ => ?_
  · refine UX (by omega) g.le g.web fun wss hw lw => ?_
    refine (show _ ∧ _ from ⟨by rw [List.length_map, List.length_map]; exact Yv (by omega), ?_⟩)
    exact ZDb g hw fun w f s => ref_3 g q
  · exact ⟨Yv (by decide), ref_3 g q⟩
end
end TC

namespace TC
open PySem
theorem Sh.rows (rows : List Row) : Sh 2 (.list (rows.map rw4 ++ [.tuple []])) := .list fun x hx => by
  rcases List.mem_append.mp hx with hx | hx
  · obtain ⟨r, _, rfl⟩ := List.mem_map.mp hx
    exact .tuple fun y hy => by
      simp only [List.mem_cons, List.not_mem_nil, or_false] at hy
      rcases hy with rfl | rfl | rfl | rfl <;> exact .int 0 _
  · rw [List.mem_singleton.mp hx]; exact .tuple nofun
theorem Sh.two (a b : Ties) : Sh 3 (.list [wl a, wl b]) := .list fun x hx => by
  simp only [List.mem_cons, List.not_mem_nil, or_false] at hx
  rcases hx with rfl | rfl <;> exact Sh.pairs 0 _
theorem HA {a b : PyData} {K : V → Prop} (k : K (.d a)) : got (idxV (.d (.list [a, b])) 0) K := by rw [QO (by decide) (by decide)]; exact k
theorem HB {a b : PyData} {K : V → Prop} (k : K (.d b)) : got (idxV (.d (.list [a, b])) 1) K := by rw [QO (by decide) (by decide)]; exact k
theorem cnt_le {m : Nat} {ts : Ties} (w : Web m ts) (x : Nat) : cnt ts x ≤ m := by
  have h1 := Vf w x
  have h2 := Qj (P := List.range m) (f := fun y => bi (hs ts x y)) (g := fun _ => 1) fun i _ => (Wb _).2
  rw [QZ, List.length_range] at h2
  lia
theorem gc_ct {m : Nat} {ts : Ties} (h0 : 0 < m) (hz : m ≤ 10) (w : Web m ts) : GC (ctL m ts) := by
  refine ⟨by rw [Xr]; exact h0, by rw [Xr]; exact hz, fun c hc => ?_⟩
  obtain ⟨x, _, rfl⟩ := List.mem_map.mp hc
  have := cnt_le w x
  exact ⟨Int.natCast_nonneg _, show (cnt ts x : Int) ≤ 20 by lia⟩
theorem ct_eq {m : Nat} {ts us : Ties} (h : ∀ x, cnt us x = cnt ts x) : ctL m us = ctL m ts := by
  unfold ctL; exact List.map_congr_left fun x _ => by rw [h x]
section
variable {n : Nat} {hm : Bool} {K : V → Prop} {X : Nat → Prop}
noncomputable abbrev lwR (sc : List Int) (m : Nat) (one other : Ties) (c : Int) (h a b d : Option V) : Rho := [some (.d (.list (ofInts sc))), some (.d (.int m)), some (.d (.list (ofPairs one))), some (.d (.list (ofPairs other))), some (.d (.int c)), h, a, b, d]
theorem law_v {sc : List Int} {m : Nat} {one other : Ties} (g : GW m one) (h : GW m other) (e : ctL m one = ctL m other) {c : Int} {rows : List Row} (hr : rows.length ≤ 100) {b : Option V} (q : K (.d (.bool true))) :
    wpSs (wpCall T06 (n + 6)) false b_law_v (lwR sc m one other c (some (.d (.list [wl one, wl other]))) (some (.own (.list (rows.map rw4 ++ [.tuple []])))) b (some (.d (.list (rows.map rw4))))) (outK K) (fun c _ => X c) := by
  have l1 : (ofPairs one).length < lim := Jb (by have := JT g.web g.le; lia)
  dsimp only [b_law_v, wpSs, wpS, wpE, wpL, slotW, ownS, Rho.putL, frz, bindF, setD, setAll, bindT, F1.W, F2.W, F1.quiet, seqV, numW, isNon, Yx, Yu, Zu, Zt, YN, Zq, Zo, Zp, Za, ZM, YA, ZT, ZR, ZS, YM, Zl, ZY, ZX, ZH, ZG, YL, Zc, Zw, ZO, Yw, YB, Ys, ZP, ZQ, ZI, ZJ, Zd, Ze, Zm, Yt, Zn, Zk, ZK, ZZ, YE, YF, Zj, Zi, YG, YD, ZW, Zh, Zg, JA, YC, ZU, ZF, ZD, ZE, ZC, ZA, ZB, ZV, excIs, JN, YH, YI, Zf, Zr, YJ, YK, YZ, Ya, YQ, YR, YV, YW, Ym, Yn, Yb, Yc, Yi, Yj, YX, YY, Yd, Zy, Zz, JJ, JL, JM, JK, YU, Yo, Ye, Yf, YS, YT, YO, YP, Yy, Yz, Yk, Yl, Yp, Yq, JP, JO, Yh, Yg, Nat.reduceSub, Nat.reduceAdd, Zv, ZN, JB, Zb, Zs]
  refine HA (HB ?_)
  dsimp only [wpSs, wpS, wpE, wpL, slotW, ownS, Rho.putL, frz, bindF, setD, setAll, bindT, F1.W, F2.W, F1.quiet, seqV, numW, isNon, Yx, Yu, Zu, Zt, YN, Zq, Zo, Zp, Za, ZM, YA, ZT, ZR, ZS, YM, Zl, ZY, ZX, ZH, ZG, YL, Zc, Zw, ZO, Yw, YB, Ys, ZP, ZQ, ZI, ZJ, Zd, Ze, Zm, Yt, Zn, Zk, ZK, ZZ, YE, YF, Zj, Zi, YG, YD, ZW, Zh, Zg, JA, YC, ZU, ZF, ZD, ZE, ZC, ZA, ZB, ZV, excIs, JN, YH, YI, Zf, Zr, YJ, YK, YZ, Ya, YQ, YR, YV, YW, Ym, Yn, Yb, Yc, Yi, Yj, YX, YY, Yd, Zy, Zz, JJ, JL, JM, JK, YU, Yo, Ye, Yf, YS, YT, YO, YP, Yy, Yz, Yk, Yl, Yp, Yq, JP, JO, Yh, Yg, Nat.reduceSub, Nat.reduceAdd, Zv, ZN, JB, Zb, Zs]
  refine UR g h e fun rows2 L lr => ?_
  dsimp only [wpSs, wpS, wpE, wpL, slotW, ownS, Rho.putL, frz, bindF, setD, setAll, bindT, F1.W, F2.W, F1.quiet, seqV, numW, isNon, Yx, Yu, Zu, Zt, YN, Zq, Zo, Zp, Za, ZM, YA, ZT, ZR, ZS, YM, Zl, ZY, ZX, ZH, ZG, YL, Zc, Zw, ZO, Yw, YB, Ys, ZP, ZQ, ZI, ZJ, Zd, Ze, Zm, Yt, Zn, Zk, ZK, ZZ, YE, YF, Zj, Zi, YG, YD, ZW, Zh, Zg, JA, YC, ZU, ZF, ZD, ZE, ZC, ZA, ZB, ZV, excIs, JN, YH, YI, Zf, Zr, YJ, YK, YZ, Ya, YQ, YR, YV, YW, Ym, Yn, Yb, Yc, Yi, Yj, YX, YY, Yd, Zy, Zz, JJ, JL, JM, JK, YU, Yo, Ye, Yf, YS, YT, YO, YP, Yy, Yz, Yk, Yl, Yp, Yq, JP, JO, Yh, Yg, Nat.reduceSub, Nat.reduceAdd, Zv, ZN, JB, Zb, Zs]
  refine VI g h L lr (.inl rfl) ?_
  refine (show _ ∧ _ from ⟨Yv (by rw [List.length_map]; simp only [List.length_cons, List.length_nil]; lia), ?_⟩)
  refine Xd rfl rfl (Sh.rows rows) (by decide) ?_
  refine (show _ ∧ _ from ⟨l1, ⟨by decide, by decide⟩, ?_⟩)
  refine Vw g ?_
  rw [Yw, JJ]
  exact UL (x := .list [wl one, wl other]) rfl rfl (Sh.two one other) (by decide) q
theorem law_u {sc : List Int} {m : Nat} {one other : Ties} (g : GW m one) (h : GW m other) (e : ctL m one = ctL m other) {c : Int} {rows rows2 : List Row} (L : Led m one rows other) (lr : rows.length ≤ dif one other) (L2 : Led m other rows2 one) (lr2 : rows2.length ≤ dif other one) (q : K (.d (.bool true))) :
    wpSs (wpCall T06 (n + 6)) false b_law_u (lwR sc m one other c (some (.d (.list [wl one, wl other]))) (some (.own (.list (rows.map rw4)))) (some (.own (.list (rows2.map rw4)))) none) (outK K) (fun c _ => X c) := by
  have h1 := VC one other
  have h2 := VC other one
  have h3 := JT g.web g.le
  have h4 := JT h.web g.le
  have l1 : (rows.map rw4).length < lim := Yv (by rw [List.length_map]; lia)
  dsimp only [b_law_u, wpSs, wpS, wpE, wpL, slotW, ownS, Rho.putL, frz, bindF, setD, setAll, bindT, F1.W, F2.W, F1.quiet, seqV, numW, isNon, Yx, Yu, Zu, Zt, YN, Zq, Zo, Zp, Za, ZM, YA, ZT, ZR, ZS, YM, Zl, ZY, ZX, ZH, ZG, YL, Zc, Zw, ZO, Yw, YB, Ys, ZP, ZQ, ZI, ZJ, Zd, Ze, Zm, Yt, Zn, Zk, ZK, ZZ, YE, YF, Zj, Zi, YG, YD, ZW, Zh, Zg, JA, YC, ZU, ZF, ZD, ZE, ZC, ZA, ZB, ZV, excIs, JN, YH, YI, Zf, Zr, YJ, YK, YZ, Ya, YQ, YR, YV, YW, Ym, Yn, Yb, Yc, Yi, Yj, YX, YY, Yd, Zy, Zz, JJ, JL, JM, JK, YU, Yo, Ye, Yf, YS, YT, YO, YP, Yy, Yz, Yk, Yl, Yp, Yq, JP, JO, Yh, Yg, Nat.reduceSub, Nat.reduceAdd, Zv, ZN, JB, Zb, Zs]
  refine Xd (x := .list [wl one, wl other]) rfl rfl (Sh.two one other) (by decide) ?_
  refine (show wpCall _ _ _ _ [_, _, _, .brw (.list (rows.map rw4))] _ _ from VI g h L lr (.inr rfl) ?_)
  refine (show wpCall _ _ _ _ [_, _, _, .brw (.list (rows2.map rw4))] _ _ from VI h g L2 lr2 (.inr rfl) ?_)
  show got (keysV (.brw (.list (rows.map rw4)))) _
  rw [show keysV (.brw (.list (rows.map rw4))) = some (rows.map rw4) from Qz (XG rows)]
  refine (show _ ∧ _ from ⟨l1, l1, ?_⟩)
  refine (show _ ∧ _ from ⟨Yv (by rw [List.length_map]; lia), ?_⟩)
  exact law_v g h e (by lia) q
theorem law_t {sc : List Int} {m : Nat} {one other : Ties} (g : GW m one) (h : GW m other) (e : ctL m one = ctL m other) {c : Int} (q : K (.d (.bool true))) :
    wpSs (wpCall T06 (n + 6)) false b_law_t (lwR sc m one other c none none none none) (outK K) (fun c _ => X c) := by
  have h3 := JT g.web g.le
  have h4 := JT h.web g.le
  dsimp only [b_law_t, wpSs, wpS, wpE, wpL, slotW, ownS, Rho.putL, frz, bindF, setD, setAll, bindT, F1.W, F2.W, F1.quiet, seqV, numW, isNon, Yx, Yu, Zu, Zt, YN, Zq, Zo, Zp, Za, ZM, YA, ZT, ZR, ZS, YM, Zl, ZY, ZX, ZH, ZG, YL, Zc, Zw, ZO, Yw, YB, Ys, ZP, ZQ, ZI, ZJ, Zd, Ze, Zm, Yt, Zn, Zk, ZK, ZZ, YE, YF, Zj, Zi, YG, YD, ZW, Zh, Zg, JA, YC, ZU, ZF, ZD, ZE, ZC, ZA, ZB, ZV, excIs, JN, YH, YI, Zf, Zr, YJ, YK, YZ, Ya, YQ, YR, YV, YW, Ym, Yn, Yb, Yc, Yi, Yj, YX, YY, Yd, Zy, Zz, JJ, JL, JM, JK, YU, Yo, Ye, Yf, YS, YT, YO, YP, Yy, Yz, Yk, Yl, Yp, Yq, JP, JO, Yh, Yg, Nat.reduceSub, Nat.reduceAdd, Zv, ZN, JB, Zb, Zs]
  refine ⟨Jb (by lia), Jb (by lia), ?_⟩
  refine HA (HB ?_)
  dsimp only [wpSs, wpS, wpE, wpL, slotW, ownS, Rho.putL, frz, bindF, setD, setAll, bindT, F1.W, F2.W, F1.quiet, seqV, numW, isNon, Yx, Yu, Zu, Zt, YN, Zq, Zo, Zp, Za, ZM, YA, ZT, ZR, ZS, YM, Zl, ZY, ZX, ZH, ZG, YL, Zc, Zw, ZO, Yw, YB, Ys, ZP, ZQ, ZI, ZJ, Zd, Ze, Zm, Yt, Zn, Zk, ZK, ZZ, YE, YF, Zj, Zi, YG, YD, ZW, Zh, Zg, JA, YC, ZU, ZF, ZD, ZE, ZC, ZA, ZB, ZV, excIs, JN, YH, YI, Zf, Zr, YJ, YK, YZ, Ya, YQ, YR, YV, YW, Ym, Yn, Yb, Yc, Yi, Yj, YX, YY, Yd, Zy, Zz, JJ, JL, JM, JK, YU, Yo, Ye, Yf, YS, YT, YO, YP, Yy, Yz, Yk, Yl, Yp, Yq, JP, JO, Yh, Yg, Nat.reduceSub, Nat.reduceAdd, Zv, ZN, JB, Zb, Zs]
  refine UR g h e fun rows L lr => ?_
  dsimp only [wpSs, wpS, wpE, wpL, slotW, ownS, Rho.putL, frz, bindF, setD, setAll, bindT, F1.W, F2.W, F1.quiet, seqV, numW, isNon, Yx, Yu, Zu, Zt, YN, Zq, Zo, Zp, Za, ZM, YA, ZT, ZR, ZS, YM, Zl, ZY, ZX, ZH, ZG, YL, Zc, Zw, ZO, Yw, YB, Ys, ZP, ZQ, ZI, ZJ, Zd, Ze, Zm, Yt, Zn, Zk, ZK, ZZ, YE, YF, Zj, Zi, YG, YD, ZW, Zh, Zg, JA, YC, ZU, ZF, ZD, ZE, ZC, ZA, ZB, ZV, excIs, JN, YH, YI, Zf, Zr, YJ, YK, YZ, Ya, YQ, YR, YV, YW, Ym, Yn, Yb, Yc, Yi, Yj, YX, YY, Yd, Zy, Zz, JJ, JL, JM, JK, YU, Yo, Ye, Yf, YS, YT, YO, YP, Yy, Yz, Yk, Yl, Yp, Yq, JP, JO, Yh, Yg, Nat.reduceSub, Nat.reduceAdd, Zv, ZN, JB, Zb, Zs]
  refine HB (HA ?_)
  dsimp only [wpSs, wpS, wpE, wpL, slotW, ownS, Rho.putL, frz, bindF, setD, setAll, bindT, F1.W, F2.W, F1.quiet, seqV, numW, isNon, Yx, Yu, Zu, Zt, YN, Zq, Zo, Zp, Za, ZM, YA, ZT, ZR, ZS, YM, Zl, ZY, ZX, ZH, ZG, YL, Zc, Zw, ZO, Yw, YB, Ys, ZP, ZQ, ZI, ZJ, Zd, Ze, Zm, Yt, Zn, Zk, ZK, ZZ, YE, YF, Zj, Zi, YG, YD, ZW, Zh, Zg, JA, YC, ZU, ZF, ZD, ZE, ZC, ZA, ZB, ZV, excIs, JN, YH, YI, Zf, Zr, YJ, YK, YZ, Ya, YQ, YR, YV, YW, Ym, Yn, Yb, Yc, Yi, Yj, YX, YY, Yd, Zy, Zz, JJ, JL, JM, JK, YU, Yo, Ye, Yf, YS, YT, YO, YP, Yy, Yz, Yk, Yl, Yp, Yq, JP, JO, Yh, Yg, Nat.reduceSub, Nat.reduceAdd, Zv, ZN, JB, Zb, Zs]
  refine UR h g e.symm fun rows2 L2 lr2 => ?_
  exact law_u g h e L lr L2 lr2 q
theorem law_spec (sc : List Int) (hs : sc.length < 64) (hb : ∀ x ∈ sc, Sml x) (q : K (.d (.bool true))) : wpCall T06 (n + 7) false 29 [.d (.list (ofInts sc))] K X := by
  refine JC (fn := f_law) rfl rfl (by decide) ?_
  dsimp only [f_law, b_law, wpSs, wpS, wpE, wpL, slotW, ownS, Rho.putL, frz, bindF, setD, setAll, bindT, F1.W, F2.W, F1.quiet, seqV, numW, isNon, Yx, Yu, Zu, Zt, YN, Zq, Zo, Zp, Za, ZM, YA, ZT, ZR, ZS, YM, Zl, ZY, ZX, ZH, ZG, YL, Zc, Zw, ZO, Yw, YB, Ys, ZP, ZQ, ZI, ZJ, Zd, Ze, Zm, Yt, Zn, Zk, ZK, ZZ, YE, YF, Zj, Zi, YG, YD, ZW, Zh, Zg, JA, YC, ZU, ZF, ZD, ZE, ZC, ZA, ZB, ZV, excIs, JN, YH, YI, Zf, Zr, YJ, YK, YZ, Ya, YQ, YR, YV, YW, Ym, Yn, Yb, Yc, Yi, Yj, YX, YY, Yd, Zy, Zz, JJ, JL, JM, JK, YU, Yo, Ye, Yf, YS, YT, YO, YP, Yy, Yz, Yk, Yl, Yp, Yq, JP, JO, Yh, Yg, Nat.reduceSub, Nat.reduceAdd, Zv, ZN, JB, Zb, Zs]
  refine ZEf sc hs hb 1 10 (by decide) (by decide) (by decide) fun m one h0 hz wo => ?_
  have w := wo.web
  have hl := JT w hz
  have g : GW m one := ⟨h0, hz, w, by lia⟩
  have go : ∀ us, Web m us → ctL m us = ctL m one → ∀ c, wpSs (wpCall T06 (n + 6)) false b_law_t (lwR sc m one us c none none none none) (outK K) (fun c _ => X c) := fun us wu ec c => law_t g ⟨h0, hz, wu, by have := JT wu hz; lia⟩ ec.symm q
  dsimp only [wpSs, wpS, wpE, wpL, slotW, ownS, Rho.putL, frz, bindF, setD, setAll, bindT, F1.W, F2.W, F1.quiet, seqV, numW, isNon, Yx, Yu, Zu, Zt, YN, Zq, Zo, Zp, Za, ZM, YA, ZT, ZR, ZS, YM, Zl, ZY, ZX, ZH, ZG, YL, Zc, Zw, ZO, Yw, YB, Ys, ZP, ZQ, ZI, ZJ, Zd, Ze, Zm, Yt, Zn, Zk, ZK, ZZ, YE, YF, Zj, Zi, YG, YD, ZW, Zh, Zg, JA, YC, ZU, ZF, ZD, ZE, ZC, ZA, ZB, ZV, excIs, JN, YH, YI, Zf, Zr, YJ, YK, YZ, Ya, YQ, YR, YV, YW, Ym, Yn, Yb, Yc, Yi, Yj, YX, YY, Yd, Zy, Zz, JJ, JL, JM, JK, YU, Yo, Ye, Yf, YS, YT, YO, YP, Yy, Yz, Yk, Yl, Yp, Yq, JP, JO, Yh, Yg, Nat.reduceSub, Nat.reduceAdd, Zv, ZN, JB, Zb, Zs]
  refine Ve hs hb (fi := 8) (by decide) h0 hz w fun us wu cu => ?_
  dsimp only [wpSs, wpS, wpE, wpL, slotW, ownS, Rho.putL, frz, bindF, setD, setAll, bindT, F1.W, F2.W, F1.quiet, seqV, numW, isNon, Yx, Yu, Zu, Zt, YN, Zq, Zo, Zp, Za, ZM, YA, ZT, ZR, ZS, YM, Zl, ZY, ZX, ZH, ZG, YL, Zc, Zw, ZO, Yw, YB, Ys, ZP, ZQ, ZI, ZJ, Zd, Ze, Zm, Yt, Zn, Zk, ZK, ZZ, YE, YF, Zj, Zi, YG, YD, ZW, Zh, Zg, JA, YC, ZU, ZF, ZD, ZE, ZC, ZA, ZB, ZV, excIs, JN, YH, YI, Zf, Zr, YJ, YK, YZ, Ya, YQ, YR, YV, YW, Ym, Yn, Yb, Yc, Yi, Yj, YX, YY, Yd, Zy, Zz, JJ, JL, JM, JK, YU, Yo, Ye, Yf, YS, YT, YO, YP, Yy, Yz, Yk, Yl, Yp, Yq, JP, JO, Yh, Yg, Nat.reduceSub, Nat.reduceAdd, Zv, ZN, JB, Zb, Zs]
  refine QF sc 0 hs (by decide) (by decide) ?_
  generalize cellAt sc 0 = c
  have rest : ∀ us, Web m us → ctL m us = ctL m one → (4 : Int) ≠ 0 ∧ cond (decide (c.fmod 4 = 2)) (((4 : Int) ≠ 0 ∧ Int.natAbs 4 < 1073741824) ∧ (3 : Int) ≠ 0 ∧ cond (decide ((c.fdiv 4).fmod 3 = 0)) ((ofPairs one).length < lim ∧ wpSs (wpCall T06 (n + 6)) false b_law_t (lwR sc m one one c none none none none) (outK K) (fun c _ => X c)) (wpSs (wpCall T06 (n + 6)) false b_law_t (lwR sc m one us c none none none none) (outK K) (fun c _ => X c))) (wpSs (wpCall T06 (n + 6)) false b_law_t (lwR sc m one us c none none none none) (outK K) (fun c _ => X c)) := fun us wu ec =>
    ⟨by decide, Ji (fun _ => ⟨⟨by decide, by decide⟩, by decide, Ji (fun _ => ⟨Jb (by lia), go one w rfl c⟩) fun _ => go us wu ec c⟩) fun _ => go us wu ec c⟩
  refine ⟨by decide, Ji (fun _ => ?_) fun _ => rest us wu (ct_eq cu)⟩
  refine Qn m hz one (by lia) ?_
  dsimp only [wpSs, wpS, wpE, wpL, slotW, ownS, Rho.putL, frz, bindF, setD, setAll, bindT, F1.W, F2.W, F1.quiet, seqV, numW, isNon, Yx, Yu, Zu, Zt, YN, Zq, Zo, Zp, Za, ZM, YA, ZT, ZR, ZS, YM, Zl, ZY, ZX, ZH, ZG, YL, Zc, Zw, ZO, Yw, YB, Ys, ZP, ZQ, ZI, ZJ, Zd, Ze, Zm, Yt, Zn, Zk, ZK, ZZ, YE, YF, Zj, Zi, YG, YD, ZW, Zh, Zg, JA, YC, ZU, ZF, ZD, ZE, ZC, ZA, ZB, ZV, excIs, JN, YH, YI, Zf, Zr, YJ, YK, YZ, Ya, YQ, YR, YV, YW, Ym, Yn, Yb, Yc, Yi, Yj, YX, YY, Yd, Zy, Zz, JJ, JL, JM, JK, YU, Yo, Ye, Yf, YS, YT, YO, YP, Yy, Yz, Yk, Yl, Yp, Yq, JP, JO, Yh, Yg, Nat.reduceSub, Nat.reduceAdd, Zv, ZN, JB, Zb, Zs]
  have gc := gc_ct h0 hz w
  refine ZAe gc (fun t e => by rw [ZAd w] at e; exact nomatch e) fun _ vs wv _ ev => ?_
  rw [Xr] at wv ev
  refine WC ?_
  exact rest vs wv ev
end
end TC

namespace TC
open PySem PySem.W PyProof.Rows
noncomputable def K06 (P : Params) : Frag := [
  (3, Obj.mk (Value.type "dict") none (Data.dict #[DictEntry.mk (PyData.keyHash P (Str.ofString "__name__")) (Value.str (Str.ofString "__name__") 165) (Value.str (Str.ofString "law_uf040017_06") 449), DictEntry.mk (PyData.keyHash P (Str.ofString "__doc__")) (Value.str (Str.ofString "__doc__") 166) Value.none, DictEntry.mk (PyData.keyHash P (Str.ofString "__package__")) (Value.str (Str.ofString "__package__") 167) Value.none, DictEntry.mk (PyData.keyHash P (Str.ofString "__loader__")) (Value.str (Str.ofString "__loader__") 168) (Value.builtin "__main__.__loader__#opaque"), DictEntry.mk (PyData.keyHash P (Str.ofString "__spec__")) (Value.str (Str.ofString "__spec__") 169) Value.none, DictEntry.mk (PyData.keyHash P (Str.ofString "__annotations__")) (Value.str (Str.ofString "__annotations__") 170) (Value.ref 6), DictEntry.mk (PyData.keyHash P (Str.ofString "__builtins__")) (Value.str (Str.ofString "__builtins__") 171) (Value.ref 4), DictEntry.mk (PyData.keyHash P (Str.ofString "__file__")) (Value.str (Str.ofString "__file__") 173) (Value.str (Str.ofString "/claim/cut.py") 172), DictEntry.mk (PyData.keyHash P (Str.ofString "__cached__")) (Value.str (Str.ofString "__cached__") 174) Value.none, DictEntry.mk (PyData.keyHash P (Str.ofString "TieError")) (Value.str (Str.ofString "TieError") 206) (Value.ref 24), DictEntry.mk (PyData.keyHash P (Str.ofString "BadCounts")) (Value.str (Str.ofString "BadCounts") 222) (Value.ref 37), DictEntry.mk (PyData.keyHash P (Str.ofString "BadMany")) (Value.str (Str.ofString "BadMany") 238) (Value.ref 49), DictEntry.mk (PyData.keyHash P (Str.ofString "BadWeb")) (Value.str (Str.ofString "BadWeb") 254) (Value.ref 61), DictEntry.mk (PyData.keyHash P (Str.ofString "BadExchange")) (Value.str (Str.ofString "BadExchange") 270) (Value.ref 73), DictEntry.mk (PyData.keyHash P (Str.ofString "Unlike")) (Value.str (Str.ofString "Unlike") 286) (Value.ref 85), DictEntry.mk (PyData.keyHash P (Str.ofString "NoWeb")) (Value.str (Str.ofString "NoWeb") 302) (Value.ref 97), DictEntry.mk (PyData.keyHash P (Str.ofString "MOST_POINTS")) (Value.str (Str.ofString "MOST_POINTS") 306) (Value.int 10 305), DictEntry.mk (PyData.keyHash P (Str.ofString "MOST_COUNT")) (Value.str (Str.ofString "MOST_COUNT") 308) (Value.int 20 307), DictEntry.mk (PyData.keyHash P (Str.ofString "is_among")) (Value.str (Str.ofString "is_among") 317) (Value.ref 106), DictEntry.mk (PyData.keyHash P (Str.ofString "need_counts")) (Value.str (Str.ofString "need_counts") 325) (Value.ref 113), DictEntry.mk (PyData.keyHash P (Str.ofString "want_of")) (Value.str (Str.ofString "want_of") 331) (Value.ref 118), DictEntry.mk (PyData.keyHash P (Str.ofString "is_tie")) (Value.str (Str.ofString "is_tie") 341) (Value.ref 125), DictEntry.mk (PyData.keyHash P (Str.ofString "need_web")) (Value.str (Str.ofString "need_web") 351) (Value.ref 132), DictEntry.mk (PyData.keyHash P (Str.ofString "tie_of")) (Value.str (Str.ofString "tie_of") 359) (Value.ref 139), DictEntry.mk (PyData.keyHash P (Str.ofString "counts_by")) (Value.str (Str.ofString "counts_by") 370) (Value.ref 146), DictEntry.mk (PyData.keyHash P (Str.ofString "done_by")) (Value.str (Str.ofString "done_by") 378) (Value.ref 151), DictEntry.mk (PyData.keyHash P (Str.ofString "has")) (Value.str (Str.ofString "has") 389) (Value.ref 158), DictEntry.mk (PyData.keyHash P (Str.ofString "parting")) (Value.str (Str.ofString "parting") 395) (Value.ref 163), DictEntry.mk (PyData.keyHash P (Str.ofString "fitting")) (Value.str (Str.ofString "fitting") 411) (Value.ref 170), DictEntry.mk (PyData.keyHash P (Str.ofString "way")) (Value.str (Str.ofString "way") 430) (Value.ref 177), DictEntry.mk (PyData.keyHash P (Str.ofString "laid")) (Value.str (Str.ofString "laid") 438) (Value.ref 182), DictEntry.mk (PyData.keyHash P (Str.ofString "told")) (Value.str (Str.ofString "told") 448) (Value.ref 189), DictEntry.mk (PyData.keyHash P (Str.ofString "_law_cell")) (Value.str (Str.ofString "_law_cell") 458) (Value.ref 196), DictEntry.mk (PyData.keyHash P (Str.ofString "_law_mixed")) (Value.str (Str.ofString "_law_mixed") 467) (Value.ref 203), DictEntry.mk (PyData.keyHash P (Str.ofString "_law_whole")) (Value.str (Str.ofString "_law_whole") 474) (Value.ref 210), DictEntry.mk (PyData.keyHash P (Str.ofString "_law_web")) (Value.str (Str.ofString "_law_web") 491) (Value.ref 217), DictEntry.mk (PyData.keyHash P (Str.ofString "_law_tied")) (Value.str (Str.ofString "_law_tied") 499) (Value.ref 224), DictEntry.mk (PyData.keyHash P (Str.ofString "_law_counts")) (Value.str (Str.ofString "_law_counts") 505) (Value.ref 229), DictEntry.mk (PyData.keyHash P (Str.ofString "_law_fits")) (Value.str (Str.ofString "_law_fits") 518) (Value.ref 236), DictEntry.mk (PyData.keyHash P (Str.ofString "_law_left")) (Value.str (Str.ofString "_law_left") 524) (Value.ref 241), DictEntry.mk (PyData.keyHash P (Str.ofString "_law_is_row")) (Value.str (Str.ofString "_law_is_row") 530) (Value.ref 246), DictEntry.mk (PyData.keyHash P (Str.ofString "_law_kind")) (Value.str (Str.ofString "_law_kind") 536) (Value.ref 251), DictEntry.mk (PyData.keyHash P (Str.ofString "_law_changed")) (Value.str (Str.ofString "_law_changed") 552) (Value.ref 258), DictEntry.mk (PyData.keyHash P (Str.ofString "_law_led")) (Value.str (Str.ofString "_law_led") 558) (Value.ref 263), DictEntry.mk (PyData.keyHash P (Str.ofString "_law_told")) (Value.str (Str.ofString "_law_told") 568) (Value.ref 270), DictEntry.mk (PyData.keyHash P (Str.ofString "_law_others")) (Value.str (Str.ofString "_law_others") 574) (Value.ref 275), DictEntry.mk (PyData.keyHash P (Str.ofString "_law_refused")) (Value.str (Str.ofString "_law_refused") 589) (Value.ref 282), DictEntry.mk (PyData.keyHash P (Str.ofString "law")) (Value.str (Str.ofString "law") 604) (Value.ref 289)] 48) #[]),
  (23, Obj.mk (Value.type "dict") none (Data.dict #[DictEntry.mk (PyData.keyHash P (Str.ofString "__module__")) (Value.str (Str.ofString "__module__") 196) (Value.str (Str.ofString "tiecount.errors") 187), DictEntry.mk (PyData.keyHash P (Str.ofString "__firstlineno__")) (Value.str (Str.ofString "__firstlineno__") 200) (Value.int 2 199), DictEntry.mk (PyData.keyHash P (Str.ofString "__static_attributes__")) (Value.str (Str.ofString "__static_attributes__") 201) (Value.ref 22), DictEntry.mk (PyData.keyHash P (Str.ofString "__weakref__")) (Value.str (Str.ofString "__weakref__") 203) (Value.ref 25), DictEntry.mk (PyData.keyHash P (Str.ofString "__doc__")) (Value.str (Str.ofString "__doc__") 204) Value.none] 3) #[]),
  (24, Obj.mk (Value.type "type") none (Data.cls (ClassData.mk (Str.ofString "TieError") [Value.type "ValueError"] [Value.ref 24, Value.type "ValueError", Value.type "Exception", Value.type "BaseException", Value.type "object"] 23 (Str.ofString "TieError") true [] [Value.ref 37, Value.ref 49, Value.ref 61, Value.ref 73, Value.ref 85, Value.ref 97] false none false)) #[some (Value.ref 15), none, some (Value.str (Str.ofString "TieError") 189), some (Value.str (Str.ofString "TieError") 197), some (Value.builtin "ValueError.__new__"), some (Value.bool true)]),
  (36, Obj.mk (Value.type "dict") none (Data.dict #[DictEntry.mk (PyData.keyHash P (Str.ofString "__module__")) (Value.str (Str.ofString "__module__") 214) (Value.str (Str.ofString "tiecount.errors") 187), DictEntry.mk (PyData.keyHash P (Str.ofString "__firstlineno__")) (Value.str (Str.ofString "__firstlineno__") 218) (Value.int 4 217), DictEntry.mk (PyData.keyHash P (Str.ofString "__static_attributes__")) (Value.str (Str.ofString "__static_attributes__") 219) (Value.ref 35), DictEntry.mk (PyData.keyHash P (Str.ofString "__doc__")) (Value.str (Str.ofString "__doc__") 220) Value.none] 2) #[]),
  (37, Obj.mk (Value.type "type") none (Data.cls (ClassData.mk (Str.ofString "BadCounts") [Value.ref 24] [Value.ref 37, Value.ref 24, Value.type "ValueError", Value.type "Exception", Value.type "BaseException", Value.type "object"] 36 (Str.ofString "BadCounts") true [] [] false none false)) #[some (Value.ref 28), none, some (Value.str (Str.ofString "BadCounts") 207), some (Value.str (Str.ofString "BadCounts") 215), some (Value.builtin "ValueError.__new__"), some (Value.bool true)]),
  (48, Obj.mk (Value.type "dict") none (Data.dict #[DictEntry.mk (PyData.keyHash P (Str.ofString "__module__")) (Value.str (Str.ofString "__module__") 230) (Value.str (Str.ofString "tiecount.errors") 187), DictEntry.mk (PyData.keyHash P (Str.ofString "__firstlineno__")) (Value.str (Str.ofString "__firstlineno__") 234) (Value.int 6 233), DictEntry.mk (PyData.keyHash P (Str.ofString "__static_attributes__")) (Value.str (Str.ofString "__static_attributes__") 235) (Value.ref 47), DictEntry.mk (PyData.keyHash P (Str.ofString "__doc__")) (Value.str (Str.ofString "__doc__") 236) Value.none] 2) #[]),
  (49, Obj.mk (Value.type "type") none (Data.cls (ClassData.mk (Str.ofString "BadMany") [Value.ref 24] [Value.ref 49, Value.ref 24, Value.type "ValueError", Value.type "Exception", Value.type "BaseException", Value.type "object"] 48 (Str.ofString "BadMany") true [] [] false none false)) #[some (Value.ref 40), none, some (Value.str (Str.ofString "BadMany") 223), some (Value.str (Str.ofString "BadMany") 231), some (Value.builtin "ValueError.__new__"), some (Value.bool true)]),
  (60, Obj.mk (Value.type "dict") none (Data.dict #[DictEntry.mk (PyData.keyHash P (Str.ofString "__module__")) (Value.str (Str.ofString "__module__") 246) (Value.str (Str.ofString "tiecount.errors") 187), DictEntry.mk (PyData.keyHash P (Str.ofString "__firstlineno__")) (Value.str (Str.ofString "__firstlineno__") 250) (Value.int 8 249), DictEntry.mk (PyData.keyHash P (Str.ofString "__static_attributes__")) (Value.str (Str.ofString "__static_attributes__") 251) (Value.ref 59), DictEntry.mk (PyData.keyHash P (Str.ofString "__doc__")) (Value.str (Str.ofString "__doc__") 252) Value.none] 2) #[]),
  (61, Obj.mk (Value.type "type") none (Data.cls (ClassData.mk (Str.ofString "BadWeb") [Value.ref 24] [Value.ref 61, Value.ref 24, Value.type "ValueError", Value.type "Exception", Value.type "BaseException", Value.type "object"] 60 (Str.ofString "BadWeb") true [] [] false none false)) #[some (Value.ref 52), none, some (Value.str (Str.ofString "BadWeb") 239), some (Value.str (Str.ofString "BadWeb") 247), some (Value.builtin "ValueError.__new__"), some (Value.bool true)]),
  (72, Obj.mk (Value.type "dict") none (Data.dict #[DictEntry.mk (PyData.keyHash P (Str.ofString "__module__")) (Value.str (Str.ofString "__module__") 262) (Value.str (Str.ofString "tiecount.errors") 187), DictEntry.mk (PyData.keyHash P (Str.ofString "__firstlineno__")) (Value.str (Str.ofString "__firstlineno__") 266) (Value.int 10 265), DictEntry.mk (PyData.keyHash P (Str.ofString "__static_attributes__")) (Value.str (Str.ofString "__static_attributes__") 267) (Value.ref 71), DictEntry.mk (PyData.keyHash P (Str.ofString "__doc__")) (Value.str (Str.ofString "__doc__") 268) Value.none] 2) #[]),
  (73, Obj.mk (Value.type "type") none (Data.cls (ClassData.mk (Str.ofString "BadExchange") [Value.ref 24] [Value.ref 73, Value.ref 24, Value.type "ValueError", Value.type "Exception", Value.type "BaseException", Value.type "object"] 72 (Str.ofString "BadExchange") true [] [] false none false)) #[some (Value.ref 64), none, some (Value.str (Str.ofString "BadExchange") 255), some (Value.str (Str.ofString "BadExchange") 263), some (Value.builtin "ValueError.__new__"), some (Value.bool true)]),
  (84, Obj.mk (Value.type "dict") none (Data.dict #[DictEntry.mk (PyData.keyHash P (Str.ofString "__module__")) (Value.str (Str.ofString "__module__") 278) (Value.str (Str.ofString "tiecount.errors") 187), DictEntry.mk (PyData.keyHash P (Str.ofString "__firstlineno__")) (Value.str (Str.ofString "__firstlineno__") 282) (Value.int 12 281), DictEntry.mk (PyData.keyHash P (Str.ofString "__static_attributes__")) (Value.str (Str.ofString "__static_attributes__") 283) (Value.ref 83), DictEntry.mk (PyData.keyHash P (Str.ofString "__doc__")) (Value.str (Str.ofString "__doc__") 284) Value.none] 2) #[]),
  (85, Obj.mk (Value.type "type") none (Data.cls (ClassData.mk (Str.ofString "Unlike") [Value.ref 24] [Value.ref 85, Value.ref 24, Value.type "ValueError", Value.type "Exception", Value.type "BaseException", Value.type "object"] 84 (Str.ofString "Unlike") true [] [] false none false)) #[some (Value.ref 76), none, some (Value.str (Str.ofString "Unlike") 271), some (Value.str (Str.ofString "Unlike") 279), some (Value.builtin "ValueError.__new__"), some (Value.bool true)]),
  (96, Obj.mk (Value.type "dict") none (Data.dict #[DictEntry.mk (PyData.keyHash P (Str.ofString "__module__")) (Value.str (Str.ofString "__module__") 294) (Value.str (Str.ofString "tiecount.errors") 187), DictEntry.mk (PyData.keyHash P (Str.ofString "__firstlineno__")) (Value.str (Str.ofString "__firstlineno__") 298) (Value.int 14 297), DictEntry.mk (PyData.keyHash P (Str.ofString "__static_attributes__")) (Value.str (Str.ofString "__static_attributes__") 299) (Value.ref 95), DictEntry.mk (PyData.keyHash P (Str.ofString "__doc__")) (Value.str (Str.ofString "__doc__") 300) Value.none] 2) #[]),
  (97, Obj.mk (Value.type "type") none (Data.cls (ClassData.mk (Str.ofString "NoWeb") [Value.ref 24] [Value.ref 97, Value.ref 24, Value.type "ValueError", Value.type "Exception", Value.type "BaseException", Value.type "object"] 96 (Str.ofString "NoWeb") true [] [] false none false)) #[some (Value.ref 88), none, some (Value.str (Str.ofString "NoWeb") 287), some (Value.str (Str.ofString "NoWeb") 295), some (Value.builtin "ValueError.__new__"), some (Value.bool true)])]
noncomputable def fn06 : List Str := ["is_among", "need_counts", "want_of", "is_tie", "need_web", "tie_of", "counts_by", "done_by", "has", "parting", "fitting", "way", "laid", "told", "_law_cell", "_law_mixed", "_law_whole", "_law_web", "_law_tied", "_law_counts", "_law_fits", "_law_left", "_law_is_row", "_law_kind", "_law_changed", "_law_led", "_law_told", "_law_others", "_law_refused", "law"]
noncomputable def fa06 : List Addr := [106, 113, 118, 125, 132, 139, 146, 151, 158, 163, 170, 177, 182, 189, 196, 203, 210, 217, 224, 229, 236, 241, 246, 251, 258, 263, 270, 275, 282, 289]
noncomputable def cn06 : List Str := ["TieError", "BadCounts", "BadMany", "BadWeb", "BadExchange", "Unlike", "NoWeb"]
noncomputable def ca06 : List Addr := [24, 37, 49, 61, 73, 85, 97]
noncomputable def cst06 : List (Str × Int) := [("MOST_POINTS", 10), ("MOST_COUNT", 20)]
end TC

open PySem PySem.W PyProof.Rows
set_option maxRecDepth 100000 in
set_option maxHeartbeats 8000000 in
theorem PySem.Challenge.cw_uf040017_06_holds : PySem.Challenge.rw_uf040017_06.Holds := by
  w_on
  o_law
  o_head (kHook TC.K06 [3, 23, 24, 36, 37, 48, 49, 60, 61, 72, 73, 84, 85, 96, 97] (fun _ => rfl))
  (case hw => w_witness2)
  intro w s₀ s₁ mg mb G Y fa o pm cd doc dV kV ho hd hcd hD hmg hg args vals as hpre hlay hrd hwl hlo
  have KX := kIn_of Y
  refine Ground.open G ?_
  intro T B D TE TW
  have efa : Value.ref fa = Value.ref 289 := Option.some.inj (hmg.symm.trans (mg_of KX T.g (show nsIn _ mainGlobals "law" = some (some (.ref 289)) by kernel_rfl)))
  have efa := Value.ref.inj efa
  subst efa
  clear hd hcd hD hmg ho
  wrow_args hpre hlay hrd hwl hlo
  rename_i sc _ _ hL _ _ _ _ _ _ _ _ _ W _ _ _ hlen _
  refine enter_call ?_
  refine TC.law_ends (TC.gl_ok TC.fn06 TC.fa06 TC.cn06 TC.ca06 TC.cst06 TC.T06 [] KX T ?ckq ?coq rfl rfl rfl ?foq) rfl (f := 29) rfl W hg ?wq ?nq ?pq
  case ckq => kernel_rfl
  case coq => kernel_rfl
  case foq =>
    unfold TC.fn06 TC.T06
    refine .cons ⟨[], by kernel_rfl, by kernel_rfl, by kernel_rfl, fun pm code doc vals h => by
      obtain ⟨a, b, c, rfl⟩ := TC.len3 h
      kernel_rfl⟩ ?_
    refine .cons ⟨[], by kernel_rfl, by kernel_rfl, by kernel_rfl, fun pm code doc vals h => by
      obtain ⟨a, rfl⟩ := TC.len1 h
      kernel_rfl⟩ ?_
    refine .cons ⟨[], by kernel_rfl, by kernel_rfl, by kernel_rfl, fun pm code doc vals h => by
      obtain ⟨a, b, rfl⟩ := TC.len2 h
      kernel_rfl⟩ ?_
    refine .cons ⟨[], by kernel_rfl, by kernel_rfl, by kernel_rfl, fun pm code doc vals h => by
      obtain ⟨a, b, rfl⟩ := TC.len2 h
      kernel_rfl⟩ ?_
    refine .cons ⟨[2], by kernel_rfl, by kernel_rfl, by kernel_rfl, fun pm code doc vals h => by
      obtain ⟨a, b, rfl⟩ := TC.len2 h
      kernel_rfl⟩ ?_
    refine .cons ⟨[], by kernel_rfl, by kernel_rfl, by kernel_rfl, fun pm code doc vals h => by
      obtain ⟨a, b, rfl⟩ := TC.len2 h
      kernel_rfl⟩ ?_
    refine .cons ⟨[2], by kernel_rfl, by kernel_rfl, by kernel_rfl, fun pm code doc vals h => by
      obtain ⟨a, b, rfl⟩ := TC.len2 h
      kernel_rfl⟩ ?_
    refine .cons ⟨[], by kernel_rfl, by kernel_rfl, by kernel_rfl, fun pm code doc vals h => by
      obtain ⟨a, b, rfl⟩ := TC.len2 h
      kernel_rfl⟩ ?_
    refine .cons ⟨[], by kernel_rfl, by kernel_rfl, by kernel_rfl, fun pm code doc vals h => by
      obtain ⟨a, b, c, rfl⟩ := TC.len3 h
      kernel_rfl⟩ ?_
    refine .cons ⟨[], by kernel_rfl, by kernel_rfl, by kernel_rfl, fun pm code doc vals h => by
      obtain ⟨a, b, c, rfl⟩ := TC.len3 h
      kernel_rfl⟩ ?_
    refine .cons ⟨[], by kernel_rfl, by kernel_rfl, by kernel_rfl, fun pm code doc vals h => by
      obtain ⟨a, b, c, d, rfl⟩ := TC.len4 h
      kernel_rfl⟩ ?_
    refine .cons ⟨[5, 6], by kernel_rfl, by kernel_rfl, by kernel_rfl, fun pm code doc vals h => by
      obtain ⟨a, b, c, rfl⟩ := TC.len3 h
      kernel_rfl⟩ ?_
    refine .cons ⟨[1, 2], by kernel_rfl, by kernel_rfl, by kernel_rfl, fun pm code doc vals h => by
      obtain ⟨a, rfl⟩ := TC.len1 h
      kernel_rfl⟩ ?_
    refine .cons ⟨[], by kernel_rfl, by kernel_rfl, by kernel_rfl, fun pm code doc vals h => by
      obtain ⟨a, rfl⟩ := TC.len1 h
      kernel_rfl⟩ ?_
    refine .cons ⟨[], by kernel_rfl, by kernel_rfl, by kernel_rfl, fun pm code doc vals h => by
      obtain ⟨a, b, rfl⟩ := TC.len2 h
      kernel_rfl⟩ ?_
    refine .cons ⟨[], by kernel_rfl, by kernel_rfl, by kernel_rfl, fun pm code doc vals h => by
      obtain ⟨a, b, rfl⟩ := TC.len2 h
      kernel_rfl⟩ ?_
    refine .cons ⟨[], by kernel_rfl, by kernel_rfl, by kernel_rfl, fun pm code doc vals h => by
      obtain ⟨a, rfl⟩ := TC.len1 h
      kernel_rfl⟩ ?_
    refine .cons ⟨[5], by kernel_rfl, by kernel_rfl, by kernel_rfl, fun pm code doc vals h => by
      obtain ⟨a, b, c, rfl⟩ := TC.len3 h
      kernel_rfl⟩ ?_
    refine .cons ⟨[], by kernel_rfl, by kernel_rfl, by kernel_rfl, fun pm code doc vals h => by
      obtain ⟨a, b, rfl⟩ := TC.len2 h
      kernel_rfl⟩ ?_
    refine .cons ⟨[], by kernel_rfl, by kernel_rfl, by kernel_rfl, fun pm code doc vals h => by
      obtain ⟨a, b, rfl⟩ := TC.len2 h
      kernel_rfl⟩ ?_
    refine .cons ⟨[], by kernel_rfl, by kernel_rfl, by kernel_rfl, fun pm code doc vals h => by
      obtain ⟨a, b, rfl⟩ := TC.len2 h
      kernel_rfl⟩ ?_
    refine .cons ⟨[], by kernel_rfl, by kernel_rfl, by kernel_rfl, fun pm code doc vals h => by
      obtain ⟨a, b, rfl⟩ := TC.len2 h
      kernel_rfl⟩ ?_
    refine .cons ⟨[], by kernel_rfl, by kernel_rfl, by kernel_rfl, fun pm code doc vals h => by
      obtain ⟨a, b, rfl⟩ := TC.len2 h
      kernel_rfl⟩ ?_
    refine .cons ⟨[], by kernel_rfl, by kernel_rfl, by kernel_rfl, fun pm code doc vals h => by
      obtain ⟨a, rfl⟩ := TC.len1 h
      kernel_rfl⟩ ?_
    refine .cons ⟨[], by kernel_rfl, by kernel_rfl, by kernel_rfl, fun pm code doc vals h => by
      obtain ⟨a, b, c, d, rfl⟩ := TC.len4 h
      kernel_rfl⟩ ?_
    refine .cons ⟨[], by kernel_rfl, by kernel_rfl, by kernel_rfl, fun pm code doc vals h => by
      obtain ⟨a, b, c, d, rfl⟩ := TC.len4 h
      kernel_rfl⟩ ?_
    refine .cons ⟨[], by kernel_rfl, by kernel_rfl, by kernel_rfl, fun pm code doc vals h => by
      obtain ⟨a, b, c, rfl⟩ := TC.len3 h
      kernel_rfl⟩ ?_
    refine .cons ⟨[4], by kernel_rfl, by kernel_rfl, by kernel_rfl, fun pm code doc vals h => by
      obtain ⟨a, b, c, rfl⟩ := TC.len3 h
      kernel_rfl⟩ ?_
    refine .cons ⟨[], by kernel_rfl, by kernel_rfl, by kernel_rfl, fun pm code doc vals h => by
      obtain ⟨a, b, c, rfl⟩ := TC.len3 h
      kernel_rfl⟩ ?_
    refine .cons ⟨[6, 7], by kernel_rfl, by kernel_rfl, by kernel_rfl, fun pm code doc vals h => by
      obtain ⟨a, rfl⟩ := TC.len1 h
      kernel_rfl⟩ ?_
    exact .nil
  case wq =>
    refine TC.law_spec sc ?_ ?_ rfl
    · omega
    · intro x hx
      exact intBits_le_of_item hx hL
  case nq => exact raisesW_false (by wrow_none_raised)
  case pq => wrow_post
