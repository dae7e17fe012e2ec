import PyProof.Rows.All
import Wide.All
import Open.Line
import OpenK.KWalk
import OpenK.KMore
import OpenK.KDescr
import KE.LcTurns
import KE.IntBitsLaws
import Wide.FinOn
import PySem.Challenge.RW_uf040017_01
set_option autoImplicit false
set_option linter.unusedVariables false
set_option linter.unusedSimpArgs false
set_option Elab.async false
set_option genSizeOf false
set_option genInjectivity false
namespace TC
open PySem PySem.W PyProof.Rows

/-! A small language beside the model's: its values, its texts, what holds behind a run of them. -/

mutual
/-- no list and no dict within -/
noncomputable def flat : PyData → Bool
  | .list _ => false
  | .dict _ => false
  | .tuple xs => flats xs
  | _ => true
noncomputable def flats : List PyData → Bool
  | [] => true
  | x :: xs => flat x && flats xs
end

/-- what a name may hold: plain data; a list or dict of the frame's own; data that may be read, not kept; a tuple some of whose parts are own; a caught exception -/
inductive V where
  | d (x : PyData)
  | own (x : PyData)
  | brw (x : PyData)
  | ot (l : List (Bool × PyData))
  | exc (c : Nat)

noncomputable def got {α : Type} : Option α → (α → Prop) → Prop
  | some v, K => K v
  | none, _ => False

noncomputable def rd : V → Option PyData
  | .d x => some x
  | .own x => some x
  | .brw x => some x
  | .ot l => some (.tuple (l.map (·.2)))
  | .exc _ => none
/-- may be kept as plain data -/
noncomputable def kp : V → Option PyData
  | .d x => some x
  | .own x => some x
  | .brw x => if flat x then some x else none
  | .ot l => some (.tuple (l.map (·.2)))
  | .exc _ => none
noncomputable def low (y : PyData) : V := if flat y then .d y else .brw y
/-- a name read -/
noncomputable def nmV : V → V
  | .own x => .brw x
  | .ot l => .brw (.tuple (l.map (·.2)))
  | .brw x => low x
  | v => v
/-- handed to a def -/
noncomputable def argV : V → V
  | .own x => .d x
  | .ot l => .d (.tuple (l.map (·.2)))
  | v => v
noncomputable def keepV (o : Bool) : V → Option V
  | .own x => some (if o then .own x else .d x)
  | .ot l => some (if o then .ot l else .d (.tuple (l.map (·.2))))
  | v => (kp v).map .d
noncomputable def retV : V → Option V
  | .own x => some (.own x)
  | .ot l => some (.ot l)
  | v => (kp v).map .d

theorem lim_some : ∃ n : Nat, n = 1000000 := ⟨1000000, rfl⟩
/-- a million -/
noncomputable def lim : Nat := Classical.choose lim_some
theorem lim_eq : lim = 1000000 := Classical.choose_spec lim_some

noncomputable def idxD (xs : List PyData) (i : Int) : Option PyData :=
  if 0 ≤ i ∧ i < lim then xs[i.toNat]? else if i < 0 ∧ -(xs.length : Int) ≤ i ∧ xs.length < lim then xs[(xs.length + i).toNat]? else none
noncomputable def seqOf : PyData → Option (List PyData)
  | .list xs => some xs
  | .tuple xs => some xs
  | _ => none
noncomputable def idxV (v : V) (i : Int) : Option V :=
  match v with
  | .ot l => if 0 ≤ i ∧ i < lim then (l[i.toNat]?).map fun p => if p.1 then .own p.2 else .d p.2 else none
  | .brw x => ((seqOf x).bind (idxD · i)).map low
  | .d x => ((seqOf x).bind (idxD · i)).map .d
  | .own x => ((seqOf x).bind (idxD · i)).map .d
  | .exc _ => none

/-- the parts of a list, such that a new list may hold them -/
noncomputable def lsV : V → Option (List PyData)
  | .d (.list xs) => some xs
  | .own (.list xs) => some xs
  | .brw (.list xs) => if flats xs then some xs else none
  | _ => none
/-- what a loop takes -/
noncomputable def itemsV (v : V) : Option (List V) :=
  match v with
  | .brw x => (seqOf x).map (·.map low)
  | .d x => (seqOf x).map (·.map .d)
  | .own x => (seqOf x).map (·.map .d)
  | _ => none

noncomputable def intsOf : List PyData → Option (List Int)
  | [] => some []
  | .int i :: r => (intsOf r).map (i :: ·)
  | _ => none
noncomputable def boolsOf : List PyData → Option (List Bool)
  | [] => some []
  | .bool i :: r => (boolsOf r).map (i :: ·)
  | _ => none
noncomputable def tupsOf : List PyData → Option (List (List Int))
  | [] => some []
  | .tuple xs :: r => (intsOf xs).bind fun is => (tupsOf r).map (is :: ·)
  | _ => none

inductive Op where
  | add | sub | mul | fdiv | mod | eq | ne | lt | le | gt | ge | isin | notin

open Classical in
noncomputable def Op.num (o : Op) (a b : Int) : Option PyData :=
  match o with
  | .add => some (.int (a + b))
  | .sub => some (.int (a - b))
  | .mul => if IntMulOk a b then some (.int (a * b)) else none
  | .fdiv => if b ≠ 0 ∧ b.natAbs < 1073741824 then some (.int (a.fdiv b)) else none
  | .mod => if b = 0 then none else some (.int (a.fmod b))
  | .lt => some (.bool (decide (a < b)))
  | .le => some (.bool (decide (a ≤ b)))
  | .gt => some (.bool (decide (b < a)))
  | .ge => some (.bool (decide (b ≤ a)))
  | _ => none

/-- a key that may be asked for: an int, or a tuple of ints -/
noncomputable def keyOk : PyData → Bool
  | .int _ => true
  | .tuple xs => (intsOf xs).isSome && decide (xs.length < 64)
  | _ => false
noncomputable def keysOf (kvs : List (PyData × PyData)) : List PyData := kvs.map (·.1)

open Classical in
noncomputable def inD (x y : PyData) : Option Bool :=
  match y with
  | .dict kvs => none
  | y => (seqOf y).bind fun ys => if SeqAt.shaped x && SeqAt.shaped y then some (ys.any fun z => PyData.eqv z x) else none
noncomputable def eqD (x y : PyData) : Option Bool := if SeqAt.shaped x && SeqAt.shaped y then some (PyData.eqv x y) else none
noncomputable def Op.ev (o : Op) (v w : V) : Option V :=
  (rd v).bind fun x => (rd w).bind fun y =>
    match o with
    | .eq => (eqD x y).map fun b => .d (.bool b)
    | .ne => (eqD x y).map fun b => .d (.bool !b)
    | .isin => (inD x y).map fun b => .d (.bool b)
    | .notin => (inD x y).map fun b => .d (.bool !b)
    | o => match x, y with
      | .int a, .int b => (o.num a b).map .d
      | .list _, .list _ => match o with
        | .add => (lsV v).bind fun xs => (lsV w).bind fun ys => if xs.length + ys.length < lim then some (.own (.list (xs ++ ys))) else none
        | _ => none
      | .list _, .int k => match o with
        | .mul => (lsV v).bind fun xs => if 0 ≤ k ∧ k < lim ∧ xs.length * k.toNat < lim then some (.own (.list (List.replicate k.toNat xs).flatten)) else none
        | _ => none
      | _, _ => none

theorem shaped_int (a : Int) : SeqAt.shaped (.int a) = true := by unfold SeqAt.shaped; simp [PyData.canLay0, PyData.depth]
theorem eqD_int (a b : Int) : eqD (.int a) (.int b) = some (decide (a = b)) := by
  unfold eqD; simp only [shaped_int, Bool.and_true, if_true]; simp [PyData.eqv]; rfl
noncomputable def intPair : V → V → Option (Int × Int)
  | .d (.int a), .d (.int b) => some (a, b)
  | _, _ => none
/-- an operation on two ints, what it asks said ahead -/
noncomputable def numW (o : Op) (a b : Int) (K : V → Prop) : Prop :=
  match o with
  | .add => K (.d (.int (a + b)))
  | .sub => K (.d (.int (a - b)))
  | .mul => IntMulOk a b ∧ K (.d (.int (a * b)))
  | .fdiv => (b ≠ 0 ∧ b.natAbs < 1073741824) ∧ K (.d (.int (a.fdiv b)))
  | .mod => b ≠ 0 ∧ K (.d (.int (a.fmod b)))
  | .lt => K (.d (.bool (decide (a < b))))
  | .le => K (.d (.bool (decide (a ≤ b))))
  | .gt => K (.d (.bool (decide (b < a))))
  | .ge => K (.d (.bool (decide (b ≤ a))))
  | .eq => K (.d (.bool (decide (a = b))))
  | .ne => K (.d (.bool (!decide (a = b))))
  | .isin => False
  | .notin => False
noncomputable def opW (o : Op) (v w : V) (K : V → Prop) : Prop :=
  match intPair v w with
  | some p => numW o p.1 p.2 K
  | none => got (o.ev v w) K
theorem opW_some {o : Op} {v w : V} {K : V → Prop} (h : opW o v w K) : ∃ u, o.ev v w = some u ∧ K u := by
  unfold opW at h
  split at h
  · rename_i p e
    unfold intPair at e
    split at e
    · cases e
      rename_i a b
      cases o with
      | mul => exact ⟨_, congrArg (Option.map V.d) (if_pos h.1), h.2⟩
      | fdiv => exact ⟨_, congrArg (Option.map V.d) (if_pos h.1), h.2⟩
      | mod => exact ⟨_, congrArg (Option.map V.d) (if_neg h.1), h.2⟩
      | eq => exact ⟨_, congrArg (Option.map fun b => V.d (.bool b)) (eqD_int a b), h⟩
      | ne => exact ⟨_, congrArg (Option.map fun b => V.d (.bool !b)) (eqD_int a b), h⟩
      | isin => exact h.elim
      | notin => exact h.elim
      | _ => exact ⟨_, rfl, h⟩
    · cases e
  · cases e : o.ev v w with
    | none => rw [e] at h; exact h.elim
    | some u => rw [e] at h; exact ⟨u, rfl, h⟩

inductive Ty where
  | int | bool | list | tuple | exc (c : Nat) | valueError
/-- the own classes by number: 0 is the base of the others -/
noncomputable def Ty.has : Ty → PyData → Bool
  | .int, .int _ => true
  | .int, .bool _ => true
  | .bool, .bool _ => true
  | .list, .list _ => true
  | .tuple, .tuple _ => true
  | _, _ => false

inductive F1 where
  | len | sum | max | min | list | tuple | sorted | sortedR | int | all | lenset | sortedset | listrev | not | isNone | notNone | isi (t : Ty)
inductive F2 where
  | max | min | index

/-- asks no iterator to its end -/
noncomputable def F1.quiet : F1 → Bool
  | .len => true
  | .int => true
  | .not => true
  | .isNone => true
  | .notNone => true
  | .isi _ => true
  | _ => false

noncomputable def lexLe : List Int → List Int → Bool
  | [], _ => true
  | _ :: _, [] => false
  | a :: r, b :: t => decide (a < b) || (decide (a = b) && lexLe r t)
noncomputable def sortI (xs : List Int) : List Int := xs.mergeSort (fun a b => decide (a ≤ b))
noncomputable def sortT (xs : List (List Int)) : List (List Int) := xs.mergeSort lexLe
noncomputable def ofInts (xs : List Int) : List PyData := xs.map .int
noncomputable def ofTups (xs : List (List Int)) : List PyData := xs.map fun t => .tuple (ofInts t)
noncomputable def maxL : List Int → Option Int
  | [] => none
  | a :: r => some (r.foldl max a)
noncomputable def minL : List Int → Option Int
  | [] => none
  | a :: r => some (r.foldl min a)

noncomputable def isNon : PyData → Bool
  | .none => true
  | _ => false
noncomputable def F1.ev (f : F1) (v : V) : Option V :=
  match f with
  | .len => (rd v).bind fun x => match x with
    | .list xs => if xs.length < lim then some (.d (.int xs.length)) else none
    | .tuple xs => if xs.length < lim then some (.d (.int xs.length)) else none
    | _ => none
  | .sum => (rd v).bind fun x => match x with
    | .list xs => (intsOf xs).map fun is => .d (.int is.sum)
    | _ => none
  | .max => (rd v).bind fun x => (seqOf x).bind fun xs => (intsOf xs).bind fun is => (maxL is).map fun m => .d (.int m)
  | .min => (rd v).bind fun x => (seqOf x).bind fun xs => (intsOf xs).bind fun is => (minL is).map fun m => .d (.int m)
  | .list => match rd v with
    | some (.dict kvs) => none
    | _ => (lsV v).bind fun xs => if xs.length < lim then some (.own (.list xs)) else none
  | .tuple => (lsV v).bind fun xs => if xs.length < lim then some (.d (.tuple xs)) else none
  | .sorted => (rd v).bind fun x => match x with
    | .list xs => match intsOf xs with
      | some is => if is.length < 64 then some (.own (.list (ofInts (sortI is)))) else none
      | none => none
    | _ => none
  | .sortedR => (rd v).bind fun x => match x with
    | .list xs => (intsOf xs).bind fun is => if is.length < 64 then some (.own (.list (ofInts (sortI is).reverse))) else none
    | _ => none
  | .int => match v with
    | .d (.bool b) => some (.d (.int (if b then 1 else 0)))
    | _ => none
  | .all => (rd v).bind fun x => match x with
    | .list xs => (boolsOf xs).map fun bs => .d (.bool (bs.all id))
    | _ => none
  | .lenset => none
  | .sortedset => none
  | .listrev => none
  | .not => match v with
    | .d (.bool b) => some (.d (.bool (!b)))
    | _ => none
  | .isNone => (rd v).map fun x => .d (.bool (isNon x))
  | .notNone => (rd v).map fun x => .d (.bool (!isNon x))
  | .isi t => match v, t with
    | .exc _, .valueError => some (.d (.bool true))
    | .exc c, .exc c' => some (.d (.bool (c' == 0 || c == c')))
    | .exc _, _ => none
    | _, .exc _ => none
    | _, .valueError => none
    | v, t => (rd v).map fun x => .d (.bool (t.has x))

noncomputable def F2.ev (f : F2) (v w : V) : Option V :=
  match f with
  | .max => match v, w with
    | .d (.int a), .d (.int b) => some (.d (.int (Max.max a b)))
    | _, _ => none
  | .min => match v, w with
    | .d (.int a), .d (.int b) => some (.d (.int (Min.min a b)))
    | _, _ => none
  | .index => none

/-- a written cut -/
noncomputable def fromV (v : V) (i : Int) : Option V := (lsV v).bind fun xs => if 0 ≤ i ∧ i < lim ∧ xs.length < lim then some (.own (.list (xs.drop i.toNat))) else none
noncomputable def toV (v : V) (i : Int) : Option V := (lsV v).bind fun xs => if 0 ≤ i ∧ i < lim ∧ xs.length < lim then some (.own (.list (xs.take i.toNat))) else none

mutual
inductive E where
  | nm (i : Nat) | int (i : Int) | str (s : Str) | bool (b : Bool) | none
  | tup (es : Es) | lst (es : Es) | dic0 | dic1 (k v : E)
  | op (o : Op) (a b : E)
  | cmp (a : E) (cs : Cs)
  | f1 (f : F1) (a : E) | f2 (f : F2) (a b : E)
  | and (es : Es) | or (es : Es)
  | idx (a i : E) | sfrom (a i : E) | sto (a i : E)
  | call (f : Nat) (es : Es)
  | comp0 (t : Option Nat) (src : Src) (elt : E)
  | comp1 (t : Option Nat) (src : Src) (c elt : E)
  | lrange (e : E)
inductive Es where
  | nil | cons (e : E) (es : Es)
inductive Cs where
  | nil | cons (o : Op) (e : E) (cs : Cs)
inductive Src where
  | rng (e : E) | rng2 (a b : E) | dat (e : E) | zip (a b : E)
end

noncomputable abbrev Rho := List (Option V)
noncomputable abbrev Call := Bool → Nat → List V → (V → Prop) → (Nat → Prop) → Prop

noncomputable def rangeL (a b : Int) : List Int := (List.range (b - a).toNat).map fun (i : Nat) => a + i
noncomputable def partsV (v : V) (n : Nat) : Option (List V) :=
  match v with
  | .ot l => if l.length = n then some (l.map fun p => if p.1 then .own p.2 else .d p.2) else none
  | .d (.tuple xs) => if xs.length = n then some (xs.map .d) else none
  | .brw (.tuple xs) => if xs.length = n then some (xs.map low) else none
  | _ => none

/-- the names of a comprehension stand behind the frame's -/
noncomputable def bindT (t : Option Nat) (v : V) (ρ : Rho) (k : Rho → Prop) : Prop :=
  match t with
  | none => k (ρ ++ [some v])
  | some n => got (partsV v n) fun vs => k (ρ ++ vs.map some)

noncomputable def compW (step : Rho → (Option PyData → Prop) → Prop) (t : Option Nat) (ρ : Rho) (K : V → Prop) : List V → List PyData → Prop
  | [], acc => acc.length < lim ∧ K (.own (.list acc))
  | x :: xs, acc => bindT t x ρ fun ρ' => step ρ' fun r => compW step t ρ K xs (match r with | some y => acc ++ [y] | none => acc)

noncomputable def ifB (v : V) (a b : Prop) : Prop :=
  match v with
  | .d (.bool c) => cond c a b
  | _ => False
/-- asks no iterator to its end, or no exception is handled -/
noncomputable def qW (f : F1) (hm : Bool) (P : Prop) : Prop := cond (!f.quiet && hm) False P
noncomputable def q2W (hm : Bool) (P : Prop) : Prop := cond hm False P
theorem qW_inv {f : F1} {hm : Bool} {P : Prop} (h : qW f hm P) : (hm = true → f.quiet = true) ∧ P := by
  unfold qW at h
  cases hm with
  | false => rw [Bool.and_false] at h; exact ⟨(fun q => nomatch q), h⟩
  | true =>
    cases q : f.quiet with
    | false => rw [q] at h; exact h.elim
    | true => rw [q] at h; exact ⟨fun _ => rfl, h⟩
theorem q2W_inv {hm : Bool} {P : Prop} (h : q2W hm P) : hm = false ∧ P := by
  cases hm with
  | false => exact ⟨rfl, h⟩
  | true => exact h.elim

noncomputable def keepAll : List V → Option (List PyData)
  | [] => some []
  | v :: r => (kp v).bind fun x => (keepAll r).map (x :: ·)

mutual
noncomputable def wpE (Φ : Call) (hm : Bool) : E → Rho → (V → Prop) → (Nat → Prop) → Prop
  | .nm i, ρ, K, _ => got (ρ[i]?) fun s => got s fun v => K (nmV v)
  | .int i, _, K, _ => K (.d (.int i))
  | .str s, _, K, _ => K (.d (.str s))
  | .bool b, _, K, _ => K (.d (.bool b))
  | .none, _, K, _ => K (.d .none)
  | .tup es, ρ, K, X => wpEs Φ hm es ρ (fun vs => got (keepAll vs) fun xs => K (.d (.tuple xs))) X
  | .lst es, ρ, K, X => wpEs Φ hm es ρ (fun vs => got (keepAll vs) fun xs => K (.own (.list xs))) X
  | .dic0, _, K, _ => K (.own (.dict []))
  | .dic1 k v, ρ, K, X => wpE Φ hm k ρ (fun a => wpE Φ hm v ρ (fun b => got (kp a) fun x => got (kp b) fun y => keyOk x = true ∧ K (.own (.dict [(x, y)]))) X) X
  | .op o a b, ρ, K, X => wpE Φ hm a ρ (fun v => wpE Φ hm b ρ (fun w => opW o v w K) X) X
  | .cmp a cs, ρ, K, X => wpE Φ hm a ρ (fun v => wpC Φ hm cs v ρ K X) X
  | .f1 f a, ρ, K, X => wpE Φ hm a ρ (fun v => qW f hm (got (f.ev v) K)) X
  | .f2 f a b, ρ, K, X => wpE Φ hm a ρ (fun v => wpE Φ hm b ρ (fun w => q2W hm (got (f.ev v w) K)) X) X
  | .and es, ρ, K, X => wpAnd Φ hm es ρ K X
  | .or es, ρ, K, X => wpOr Φ hm es ρ K X
  | .idx a i, ρ, K, X => wpE Φ hm a ρ (fun v => wpE Φ hm i ρ (fun w => match w with | .d (.int k) => got (idxV v k) K | _ => False) X) X
  | .sfrom a i, ρ, K, X => wpE Φ hm a ρ (fun v => wpE Φ hm i ρ (fun w => match w with | .d (.int k) => got (fromV v k) K | _ => False) X) X
  | .sto a i, ρ, K, X => wpE Φ hm a ρ (fun v => wpE Φ hm i ρ (fun w => match w with | .d (.int k) => got (toV v k) K | _ => False) X) X
  | .call f es, ρ, K, X => wpEs Φ hm es ρ (fun vs => Φ hm f (vs.map argV) K X) X
  | .comp0 t src elt, ρ, K, X => wpSrc Φ hm src ρ (fun xs => compW (fun ρ' k => wpE Φ hm elt ρ' (fun v => got (kp v) fun y => k (some y)) (fun _ => False)) t ρ K xs []) X
  | .comp1 t src c elt, ρ, K, X => wpSrc Φ hm src ρ (fun xs => compW (fun ρ' k => wpE Φ hm c ρ' (fun b => ifB b (wpE Φ hm elt ρ' (fun v => got (kp v) fun y => k (some y)) (fun _ => False)) (k none)) (fun _ => False)) t ρ K xs []) X
  | .lrange e, ρ, K, X => wpE Φ hm e ρ (fun v => match v with | .d (.int n) => hm = false ∧ n < lim ∧ K (.own (.list (ofInts (rangeL 0 n)))) | _ => False) X
noncomputable def wpEs (Φ : Call) (hm : Bool) : Es → Rho → (List V → Prop) → (Nat → Prop) → Prop
  | .nil, _, K, _ => K []
  | .cons e es, ρ, K, X => wpE Φ hm e ρ (fun v => wpEs Φ hm es ρ (fun vs => K (v :: vs)) X) X
noncomputable def wpC (Φ : Call) (hm : Bool) : Cs → V → Rho → (V → Prop) → (Nat → Prop) → Prop
  | .nil, _, _, _, _ => False
  | .cons o e cs, v, ρ, K, X => wpE Φ hm e ρ (fun w => opW o v w fun r => match cs with
      | .nil => K r
      | .cons .. => ifB r (wpC Φ hm cs w ρ K X) (K (.d (.bool false)))) X
noncomputable def wpAnd (Φ : Call) (hm : Bool) : Es → Rho → (V → Prop) → (Nat → Prop) → Prop
  | .nil, _, _, _ => False
  | .cons e es, ρ, K, X => wpE Φ hm e ρ (fun v => ifB v (match es with
      | .nil => K (.d (.bool true))
      | .cons .. => wpAnd Φ hm es ρ K X) (K (.d (.bool false)))) X
noncomputable def wpOr (Φ : Call) (hm : Bool) : Es → Rho → (V → Prop) → (Nat → Prop) → Prop
  | .nil, _, _, _ => False
  | .cons e es, ρ, K, X => wpE Φ hm e ρ (fun v => ifB v (K (.d (.bool true))) (match es with
      | .nil => K (.d (.bool false))
      | .cons .. => wpOr Φ hm es ρ K X)) X
noncomputable def wpSrc (Φ : Call) (hm : Bool) : Src → Rho → (List V → Prop) → (Nat → Prop) → Prop
  | .rng e, ρ, K, X => wpE Φ hm e ρ (fun v => match v with | .d (.int n) => hm = false ∧ -(lim : Int) < n ∧ n < lim ∧ K ((rangeL 0 n).map fun i => .d (.int i)) | _ => False) X
  | .rng2 a b, ρ, K, X => wpE Φ hm a ρ (fun v => wpE Φ hm b ρ (fun w => match v, w with | .d (.int n), .d (.int m) => hm = false ∧ -(lim : Int) < n ∧ n < lim ∧ -(lim : Int) < m ∧ m < lim ∧ K ((rangeL n m).map fun i => .d (.int i)) | _, _ => False) X) X
  | .dat e, ρ, K, X => wpE Φ hm e ρ (fun v => got (itemsV v) fun xs => xs.length < lim ∧ K xs) X
  | .zip a b, ρ, K, X => wpE Φ hm a ρ (fun v => wpE Φ hm b ρ (fun w => got (lsV v) fun xs => got (lsV w) fun ys => hm = false ∧ xs.length < lim ∧ ys.length < lim ∧ K ((xs.zip ys).map fun p => .d (.tuple [p.1, p.2]))) X) X
end

inductive Flow where
  | nxt
  | ret (v : V)

inductive Tgt where
  | one (i : Nat) | many (is : List Nat)

mutual
inductive S where
  | asg (o : Bool) (i : Nat) (e : E)
  | unp (is : List (Bool × Nat)) (e : E)
  | app (i : Nat) (e : E) | appAt (i k : Nat) (e : E)
  | set (i : Nat) (k v : E)
  | pop (j i : Nat) | rem (i : Nat) (e : E) | ins (i : Nat) (k v : E) | ext (i : Nat) (e : E) | clr (i : Nat)
  | ite (c : E) (a b : Ss)
  | loop (t : Tgt) (src : Src) (body : Ss)
  | whl (c : E) (body : Ss)
  | ret (e : E) | retm (i : Nat) | rett (es : Es)
  | rais (c : Nat)
  | tryx (body : Ss) (c k : Nat) (h : Ss)
  | drop (e : E)
inductive Ss where
  | nil | cons (s : S) (ss : Ss)
end

/-- what a handler may hand back -/
noncomputable def okRet : V → Prop
  | .d _ => True
  | .own (.list _) => True
  | _ => False
noncomputable def setAll (ρ : Rho) : List (Bool × Nat) → List V → Option Rho
  | [], [] => some ρ
  | (o, i) :: r, v :: vs => (keepV o v).bind fun u => setAll (ρ.set i (some u)) r vs
  | _, _ => none
noncomputable def bindF (t : Tgt) (v : V) (ρ : Rho) (k : Rho → Prop) : Prop :=
  match t with
  | .one i => got (keepV false v) fun u => k (ρ.set i (some u))
  | .many is => got (partsV v is.length) fun vs => got (setAll ρ (is.map fun i => (false, i)) vs) k
/-- a list of the frame's own that a loop runs over is own no more -/
noncomputable def frz (src : Src) (ρ : Rho) : Rho :=
  match src with
  | .dat (.nm i) => match ρ[i]? with
    | some (some (.own x)) => ρ.set i (some (.d x))
    | _ => ρ
  | _ => ρ
noncomputable def forW (body : V → Rho → (Flow → Rho → Prop) → Prop) (K : Flow → Rho → Prop) : List V → Rho → Prop
  | [], ρ => K .nxt ρ
  | x :: xs, ρ => body x ρ fun fl ρ' => match fl with
    | .nxt => forW body K xs ρ'
    | .ret v => K (.ret v) ρ'
noncomputable def whlW (test : Rho → (V → Prop) → Prop) (body : Rho → (Flow → Rho → Prop) → Prop) (K : Flow → Rho → Prop) : Nat → Rho → Prop
  | 0, _ => False
  | n + 1, ρ => test ρ fun b => ifB b (body ρ fun fl ρ' => match fl with
    | .nxt => whlW test body K n ρ'
    | .ret v => K (.ret v) ρ') (K .nxt ρ)

/-- what a for statement may run over: not what is only read -/
noncomputable def itemsL : V → Option (List V)
  | .brw _ => none
  | v => itemsV v
noncomputable def slot (ρ : Rho) (i : Nat) (k : V → Prop) : Prop := got (ρ[i]?) fun s => got s k

noncomputable def putKey (kvs : List (PyData × PyData)) (k v : PyData) : List (PyData × PyData) :=
  match kvs with
  | [] => [(k, v)]
  | p :: r => open Classical in if p.1 = k then (p.1, v) :: r else p :: putKey r k v

noncomputable def wpSrcL (Φ : Call) (hm : Bool) (src : Src) (ρ : Rho) (K : List V → Prop) (X : Nat → Prop) : Prop :=
  match src with
  | .dat (.nm i) => slot ρ i fun u => got (itemsV u) fun xs => xs.length < lim ∧ K xs
  | .dat e => wpE Φ hm e ρ (fun v => got (itemsL v) fun xs => xs.length < lim ∧ K xs) X
  | s => wpSrc Φ hm s ρ K X
/-- a part of a tuple that is handed back: a name of the frame's own goes with it -/
noncomputable def mvV (ρ : Rho) (e : E) (v : V) : V :=
  match e with
  | .nm i => match ρ[i]? with
    | some (some (.own x)) => .own x
    | _ => v
  | _ => v
noncomputable def partF : V → Option (Bool × PyData)
  | .own x => some (true, x)
  | v => (kp v).map (false, ·)
noncomputable def partsF : List V → Option (List (Bool × PyData))
  | [] => some []
  | v :: r => (partF v).bind fun x => (partsF r).map (x :: ·)
/-- no name of the frame's own goes twice -/
noncomputable def nmsOf : Es → List Nat
  | .nil => []
  | .cons (.nm i) es => i :: nmsOf es
  | .cons _ es => nmsOf es
noncomputable def wpMv (Φ : Call) (hm : Bool) : Es → Rho → (List V → Prop) → (Nat → Prop) → Prop
  | .nil, _, K, _ => K []
  | .cons e es, ρ, K, X => wpE Φ hm e ρ (fun v => wpMv Φ hm es ρ (fun vs => K (mvV ρ e v :: vs)) X) X

mutual
noncomputable def wpS (Φ : Call) (hm : Bool) : S → Rho → (Flow → Rho → Prop) → (Nat → Rho → Prop) → Prop
  | .asg o i e, ρ, K, X => wpE Φ hm e ρ (fun v => got (keepV o v) fun u => K .nxt (ρ.set i (some u))) (X · ρ)
  | .unp is e, ρ, K, X => wpE Φ hm e ρ (fun v => got (partsV v is.length) fun vs => got (setAll ρ is vs) fun ρ' => K .nxt ρ') (X · ρ)
  | .app i e, ρ, K, X => slot ρ i fun u => match u with
      | .own (.list xs) => wpE Φ hm e ρ (fun v => got (kp v) fun y => xs.length < lim ∧ K .nxt (ρ.set i (some (.own (.list (xs ++ [y])))))) (X · ρ)
      | _ => False
  | .appAt i k e, ρ, K, X => wpE Φ hm e ρ (fun v => got (kp v) fun y => slot ρ i fun u => match u with
      | .ot l => match l[k]? with
        | some (true, .list xs) => xs.length < lim ∧ K .nxt (ρ.set i (some (.ot (l.set k (true, .list (xs ++ [y]))))))
        | _ => False
      | _ => False) (X · ρ)
  | .set i k v, ρ, K, X => slot ρ i fun u => match u with
      | .own (.list xs) => wpE Φ hm v ρ (fun v => wpE Φ hm k ρ (fun k => got (kp v) fun y => match k with
        | .d (.int j) => 0 ≤ j ∧ j < xs.length ∧ j < lim ∧ K .nxt (ρ.set i (some (.own (.list (xs.set j.toNat y)))))
        | _ => False) (X · ρ)) (X · ρ)
      | _ => False
  | .pop j i, ρ, K, _ => slot ρ i fun u => match u with
      | .own (.list xs) => got (xs.getLast?) fun y => K .nxt ((ρ.set i (some (.own (.list xs.dropLast)))).set j (some (.d y)))
      | _ => False
  | .rem i e, ρ, K, X => slot ρ i fun u => match u with
      | .own (.list xs) => wpE Φ hm e ρ (fun v => match v with
        | .d (.int a) => got (intsOf xs) fun is => a ∈ is ∧ is.length < lim ∧ K .nxt (ρ.set i (some (.own (.list (ofInts (is.erase a))))))
        | _ => False) (X · ρ)
      | _ => False
  | .ins i k v, ρ, K, X => wpE Φ hm k ρ (fun k => wpE Φ hm v ρ (fun v => got (kp v) fun y => slot ρ i fun u => match u, k with
      | .own (.list xs), .d (.int j) => 0 ≤ j ∧ j ≤ xs.length ∧ xs.length < lim ∧ K .nxt (ρ.set i (some (.own (.list (xs.take j.toNat ++ y :: xs.drop j.toNat)))))
      | _, _ => False) (X · ρ)) (X · ρ)
  | .ext i e, ρ, K, X => wpE Φ hm e ρ (fun v => got (lsV v) fun ys => slot ρ i fun u => match u with
      | .own (.list xs) => xs.length + ys.length < lim ∧ K .nxt (ρ.set i (some (.own (.list (xs ++ ys)))))
      | _ => False) (X · ρ)
  | .clr i, ρ, K, _ => slot ρ i fun u => match u with
      | .own (.list _) => K .nxt (ρ.set i (some (.own (.list []))))
      | _ => False
  | .ite c a b, ρ, K, X => wpE Φ hm c ρ (fun v => ifB v (wpSs Φ hm a ρ K X) (wpSs Φ hm b ρ K X)) (X · ρ)
  | .loop t src body, ρ, K, X => wpSrcL Φ hm src (frz src ρ) (fun xs => forW (fun x ρ' k => bindF t x ρ' fun ρ'' => wpSs Φ hm body ρ'' k X) K xs (frz src ρ)) (X · (frz src ρ))
  | .whl c body, ρ, K, X => ∃ n, whlW (fun ρ' k => wpE Φ hm c ρ' k (X · ρ')) (fun ρ' k => wpSs Φ hm body ρ' k X) K n ρ
  | .ret e, ρ, K, X => wpE Φ hm e ρ (fun v => got (retV v) fun u => K (.ret u) ρ) (X · ρ)
  | .retm i, ρ, K, _ => slot ρ i fun u => match u with
      | .brw x => got (kp (.brw x)) fun y => K (.ret (.d y)) ρ
      | .exc _ => False
      | u => K (.ret u) ρ
  | .rett es, ρ, K, X => wpEs Φ hm es ρ (fun vs => got (partsF vs) fun l => K (.ret (.ot l)) ρ) (X · ρ)
  | .rais c, ρ, _, X => hm = false ∧ X c ρ
  | .tryx body c k h, ρ, K, X => wpSs Φ hm body ρ K fun c' ρ' => (c = 0 ∨ c = c') ∧ hm = false ∧ wpSs Φ true h (ρ'.set k (some (.exc c'))) (fun fl ρ'' => match fl with
      | .nxt => False
      | .ret v => okRet v ∧ K (.ret v) ρ'') (fun _ _ => False)
  | .drop e, ρ, K, X => wpE Φ hm e ρ (fun _ => K .nxt ρ) (X · ρ)
noncomputable def wpSs (Φ : Call) (hm : Bool) : Ss → Rho → (Flow → Rho → Prop) → (Nat → Rho → Prop) → Prop
  | .nil, ρ, K, _ => K .nxt ρ
  | .cons s ss, ρ, K, X => wpS Φ hm s ρ (fun fl ρ' => match fl with
      | .nxt => wpSs Φ hm ss ρ' K X
      | .ret v => K (.ret v) ρ') X
end

structure Fn where
  np : Nat
  ns : Nat
  body : Ss

noncomputable def wpCall (tab : List Fn) : Nat → Call
  | 0, _, _, _, _, _ => False
  | n + 1, hm, f, vs, K, X => got (tab[f]?) fun fn => vs.length = fn.np ∧ fn.np ≤ fn.ns ∧
      wpSs (wpCall tab n) hm fn.body (vs.map some ++ List.replicate (fn.ns - fn.np) none) (fun fl _ => match fl with
        | .nxt => K (.d .none)
        | .ret v => K v) (fun c _ => X c)

end TC

namespace TC
open PySem PySem.W PyProof.Rows

/-! Heaps: what a run leaves as it was; data read through a heap part of which is hidden. -/

/-- all stays, but for the slots of the frames' objects -/
noncomputable def Ext (fr : List Addr) (h h' : Heap) : Prop :=
  ∀ b o, h.get? b = some o → (b ∉ fr → h'.get? b = some o) ∧ ∃ sl, h'.get? b = some { o with slots := sl }
theorem Ext.refl (fr : List Addr) (h : Heap) : Ext fr h h := fun _ o e => ⟨fun _ => e, o.slots, e⟩
theorem Ext.trans {fr : List Addr} {h₁ h₂ h₃ : Heap} (x : Ext fr h₁ h₂) (y : Ext fr h₂ h₃) : Ext fr h₁ h₃ := fun b o e => by
  obtain ⟨x1, sl, x2⟩ := x b o e
  refine ⟨fun hb => (y b o (x1 hb)).1 hb, ?_⟩
  obtain ⟨_, sl', y2⟩ := y b _ x2
  exact ⟨sl', y2⟩
theorem Ext.of_keeps {fr : List Addr} {h h' : Heap} (k : ∀ b o, h.get? b = some o → h'.get? b = some o) : Ext fr h h' := fun b o e => ⟨fun _ => k b o e, o.slots, k b o e⟩
theorem Ext.mono {fr fr' : List Addr} {h h' : Heap} (x : Ext fr h h') (s : ∀ b ∈ fr, b ∈ fr') : Ext fr' h h' := fun b o e => ⟨fun hb => (x b o e).1 fun q => hb (s b q), (x b o e).2⟩
theorem Ext.gone {fr : List Addr} {h h' : Heap} {b : Addr} (x : Ext fr h h') (e : h'.get? b = none) : h.get? b = none := by
  cases q : h.get? b with
  | none => rfl
  | some o => obtain ⟨_, sl, y⟩ := x b o q; rw [e] at y; cases y
theorem Ext.dom {fr : List Addr} {h h' : Heap} (x : Ext fr h h') {b : Addr} (e : ∃ o, h.get? b = some o) : ∃ o, h'.get? b = some o := by
  obtain ⟨o, e⟩ := e; obtain ⟨_, sl, y⟩ := x b o e; exact ⟨_, y⟩
theorem Ext.stays {fr : List Addr} {B h h' : Heap} (x : Ext fr h h') (k : B.StaysIn h) (hb : ∀ b ∈ fr, B.get? b = none) : B.StaysIn h' := fun b o e =>
  (x b o (k b o e)).1 fun q => by rw [hb b q] at e; cases e
theorem Ext.ns {fr : List Addr} {h h' : Heap} {a : Addr} {m : Str → Option Value} (x : Ext fr h h') (n : h.Ns a m) : h'.Ns a m := by
  obtain ⟨o, es, ep, ho, hd, r⟩ := n
  obtain ⟨_, sl, hs⟩ := x a o ho
  exact ⟨_, es, ep, hs, hd, r⟩
theorem Ext.cell {fr : List Addr} {h h' : Heap} {c : Addr} {v : Option Value} (x : Ext fr h h') (n : h.IsCell c v) : h'.IsCell c v := by
  obtain ⟨o, ho, hd⟩ := n
  obtain ⟨_, sl, hs⟩ := x c o ho
  exact ⟨_, hs, hd⟩

mutual
/-- v is the datum x; each object is the plain one of its type -/
inductive PR (h : Heap) : Value → PyData → Prop
  | non : PR h .none .none
  | bool (b) : PR h (.bool b) (.bool b)
  | int (i t) : PR h (.int i t) (.int i)
  | str (x t) : PR h (.str x t) (.str x)
  | list {a vs n xs} : h.get? a = some { cls := .type "list", data := .seq vs n } → PRs h vs.toList xs → PR h (.ref a) (.list xs)
  | tuple {a vs n xs} : h.get? a = some { cls := .type "tuple", data := .seq vs n } → PRs h vs.toList xs → PR h (.ref a) (.tuple xs)
  | dict {a es n kvs} : h.get? a = some { cls := .type "dict", data := .dict es n } → PRs h (es.toList.map (·.key)) (kvs.map (·.1)) → PRs h (es.toList.map (·.val)) (kvs.map (·.2)) → PR h (.ref a) (.dict kvs)
inductive PRs (h : Heap) : List Value → List PyData → Prop
  | nil : PRs h [] []
  | cons {v vs x xs} : PR h v x → PRs h vs xs → PRs h (v :: vs) (x :: xs)
end
mutual
theorem PR.keeps {h h' : Heap} (k : ∀ b o, h.get? b = some o → h'.get? b = some o) : ∀ {v : Value} {x : PyData}, PR h v x → PR h' v x
  | _, _, .non => .non
  | _, _, .bool b => .bool b
  | _, _, .int i t => .int i t
  | _, _, .str x t => .str x t
  | _, _, .list e r => .list (k _ _ e) (PRs.keeps k r)
  | _, _, .tuple e r => .tuple (k _ _ e) (PRs.keeps k r)
  | _, _, .dict e r q => .dict (k _ _ e) (PRs.keeps k r) (PRs.keeps k q)
theorem PRs.keeps {h h' : Heap} (k : ∀ b o, h.get? b = some o → h'.get? b = some o) : ∀ {v : List Value} {x : List PyData}, PRs h v x → PRs h' v x
  | _, _, .nil => .nil
  | _, _, .cons a b => .cons (PR.keeps k a) (PRs.keeps k b)
end
mutual
theorem PR.reads {h : Heap} : ∀ {v : Value} {x : PyData}, PR h v x → ∃ as, Reads h v x as
  | _, _, .non => ⟨_, .none⟩
  | _, _, .bool b => ⟨_, .bool b⟩
  | _, _, .int i t => ⟨_, .int i t⟩
  | _, _, .str x t => ⟨_, .str x t⟩
  | _, _, .list e r => let ⟨_, q⟩ := PRs.reads r; ⟨_, .list e rfl rfl q⟩
  | _, _, .tuple e r => let ⟨_, q⟩ := PRs.reads r; ⟨_, .tuple e rfl rfl q⟩
  | _, _, .dict e r t => let ⟨_, q⟩ := PRs.reads r; let ⟨_, q'⟩ := PRs.reads t; ⟨_, .dict e rfl rfl q q'⟩
theorem PRs.reads {h : Heap} : ∀ {v : List Value} {x : List PyData}, PRs h v x → ∃ as, ReadsAll h v x as
  | _, _, .nil => ⟨_, .nil⟩
  | _, _, .cons a b => let ⟨_, q⟩ := PR.reads a; let ⟨_, q'⟩ := PRs.reads b; ⟨_, .cons q q'⟩
end

/-- v is the datum x, told without the hidden places -/
noncomputable def Rd (hid : List Addr) (h : Heap) (v : Value) (x : PyData) : Prop := PR (hideAll h hid) v x
noncomputable def RdAll (hid : List Addr) (h : Heap) (vs : List Value) (xs : List PyData) : Prop := PRs (hideAll h hid) vs xs

theorem hid_get {hid : List Addr} {h : Heap} {b : Addr} {o : Obj} (e : (hideAll h hid).get? b = some o) : b ∉ hid ∧ h.get? b = some o :=
  ⟨fun q => (by rw [hideAll_none _ q] at e; cases e), of_hideAll _ e⟩
theorem hid_move {hid hid' : List Addr} {h h' : Heap} (k : ∀ b o, b ∉ hid → h.get? b = some o → b ∉ hid' ∧ h'.get? b = some o) :
    ∀ b o, (hideAll h hid).get? b = some o → (hideAll h' hid').get? b = some o := fun b o e =>
  let ⟨e1, e2⟩ := hid_get e
  let ⟨k1, k2⟩ := k b o e1 e2
  hideAll_get _ k2 k1
theorem Rd.move {hid hid' : List Addr} {h h' : Heap} {v : Value} {x : PyData} (r : Rd hid h v x) (k : ∀ b o, b ∉ hid → h.get? b = some o → b ∉ hid' ∧ h'.get? b = some o) : Rd hid' h' v x := PR.keeps (hid_move k) r
theorem RdAll.move {hid hid' : List Addr} {h h' : Heap} {v : List Value} {x : List PyData} (r : RdAll hid h v x) (k : ∀ b o, b ∉ hid → h.get? b = some o → b ∉ hid' ∧ h'.get? b = some o) : RdAll hid' h' v x := PRs.keeps (hid_move k) r
theorem Rd.reads {hid : List Addr} {h : Heap} {v : Value} {x : PyData} (r : Rd hid h v x) : ∃ as, Reads h v x as :=
  let ⟨as, q⟩ := PR.reads r; ⟨as, Reads.keeps (fun _ _ e => of_hideAll _ e) q⟩
theorem RdAll.reads {hid : List Addr} {h : Heap} {v : List Value} {x : List PyData} (r : RdAll hid h v x) : ∃ as, ReadsAll h v x as :=
  let ⟨as, q⟩ := PRs.reads r; ⟨as, ReadsAll.keeps (fun _ _ e => of_hideAll _ e) q⟩
theorem ext_move {fr hid : List Addr} {h h' : Heap} (x : Ext fr h h') (s : ∀ b ∈ fr, b ∈ hid) : ∀ b o, b ∉ hid → h.get? b = some o → b ∉ hid ∧ h'.get? b = some o := fun b o hb e =>
  ⟨hb, (x b o e).1 fun q => hb (s b q)⟩
theorem Rd.ext {fr hid : List Addr} {h h' : Heap} {v : Value} {x : PyData} (r : Rd hid h v x) (e : Ext fr h h') (s : ∀ b ∈ fr, b ∈ hid) : Rd hid h' v x := r.move (ext_move e s)
theorem RdAll.ext {fr hid : List Addr} {h h' : Heap} {v : List Value} {x : List PyData} (r : RdAll hid h v x) (e : Ext fr h h') (s : ∀ b ∈ fr, b ∈ hid) : RdAll hid h' v x := r.move (ext_move e s)
theorem Rd.anti {hid hid' : List Addr} {h : Heap} {v : Value} {x : PyData} (r : Rd hid h v x) (s : ∀ b ∈ hid', b ∈ hid) : Rd hid' h v x := r.move fun b _ hb e => ⟨fun q => hb (s b q), e⟩
theorem RdAll.anti {hid hid' : List Addr} {h : Heap} {v : List Value} {x : List PyData} (r : RdAll hid h v x) (s : ∀ b ∈ hid', b ∈ hid) : RdAll hid' h v x := r.move fun b _ hb e => ⟨fun q => hb (s b q), e⟩
/-- places that were not there may be hidden behind -/
theorem Rd.grow {hid new : List Addr} {h : Heap} {v : Value} {x : PyData} (r : Rd hid h v x) (n : ∀ b ∈ new, h.get? b = none) : Rd (new ++ hid) h v x := r.move fun b o hb e =>
  ⟨fun q => (List.mem_append.mp q).elim (fun q => by rw [n b q] at e; cases e) hb, e⟩
theorem RdAll.grow {hid new : List Addr} {h : Heap} {v : List Value} {x : List PyData} (r : RdAll hid h v x) (n : ∀ b ∈ new, h.get? b = none) : RdAll (new ++ hid) h v x := r.move fun b o hb e =>
  ⟨fun q => (List.mem_append.mp q).elim (fun q => by rw [n b q] at e; cases e) hb, e⟩

theorem Rd.non (hid : List Addr) (h : Heap) : Rd hid h .none .none := PR.non
theorem Rd.bool (hid : List Addr) (h : Heap) (b : Bool) : Rd hid h (.bool b) (.bool b) := PR.bool b
theorem Rd.int (hid : List Addr) (h : Heap) (i : Int) (t : Tok) : Rd hid h (.int i t) (.int i) := PR.int i t
theorem Rd.str (hid : List Addr) (h : Heap) (x : Str) (t : Tok) : Rd hid h (.str x t) (.str x) := PR.str x t
theorem RdAll.nil (hid : List Addr) (h : Heap) : RdAll hid h [] [] := PRs.nil
theorem RdAll.cons {hid : List Addr} {h : Heap} {v : Value} {x : PyData} {vs : List Value} {xs : List PyData} (r : Rd hid h v x) (rs : RdAll hid h vs xs) : RdAll hid h (v :: vs) (x :: xs) := PRs.cons r rs
theorem PRs.length {h : Heap} : ∀ {vs : List Value} {xs : List PyData}, PRs h vs xs → vs.length = xs.length
  | _, _, .nil => rfl
  | _, _, .cons _ b => by simp [PRs.length b]
theorem RdAll.length {hid : List Addr} {h : Heap} {vs : List Value} {xs : List PyData} (r : RdAll hid h vs xs) : vs.length = xs.length := PRs.length r
theorem PRs.append {h : Heap} : ∀ {vs : List Value} {xs : List PyData}, PRs h vs xs → ∀ {ws : List Value} {ys : List PyData}, PRs h ws ys → PRs h (vs ++ ws) (xs ++ ys)
  | _, _, .nil, _, _, q => q
  | _, _, .cons a b, _, _, q => .cons a (PRs.append b q)
theorem RdAll.append {hid : List Addr} {h : Heap} {vs ws : List Value} {xs ys : List PyData} (r : RdAll hid h vs xs) (q : RdAll hid h ws ys) : RdAll hid h (vs ++ ws) (xs ++ ys) := PRs.append r q
theorem RdAll.split {hid : List Addr} {h : Heap} {v : Value} {vs : List Value} {xs : List PyData} (r : RdAll hid h (v :: vs) xs) : ∃ y ys, xs = y :: ys ∧ Rd hid h v y ∧ RdAll hid h vs ys := by
  cases r with | cons a b => exact ⟨_, _, rfl, a, b⟩
theorem RdAll.get {hid : List Addr} {h : Heap} : ∀ {vs : List Value} {xs : List PyData}, RdAll hid h vs xs → ∀ {k : Nat} {x : PyData}, xs[k]? = some x → ∃ v, vs[k]? = some v ∧ Rd hid h v x
  | [], xs, r, k, x, e => by have := r.length; cases xs with | nil => cases e | cons => cases this
  | v :: vs, xs, r, k, x, e => by
    obtain ⟨y, ys, rfl, a, b⟩ := r.split
    cases k with
    | zero => cases e; exact ⟨v, rfl, a⟩
    | succ k => exact b.get (k := k) (by simpa using e)
theorem RdAll.of_get {hid : List Addr} {h : Heap} : ∀ {vs : List Value} {xs : List PyData}, vs.length = xs.length → (∀ (k : Nat) (v : Value) (x : PyData), vs[k]? = some v → xs[k]? = some x → Rd hid h v x) → RdAll hid h vs xs
  | [], [], _, _ => .nil _ _
  | v :: vs, x :: xs, l, q => .cons (q 0 v x rfl rfl) (RdAll.of_get (by simpa using l) fun k w y a b => q (k + 1) w y (by simpa using a) (by simpa using b))
  | [], _ :: _, l, _ => by cases l
  | _ :: _, [], l, _ => by cases l
theorem RdAll.get' {hid : List Addr} {h : Heap} {vs : List Value} {xs : List PyData} (r : RdAll hid h vs xs) {k : Nat} {v : Value} (e : vs[k]? = some v) : ∃ x, xs[k]? = some x ∧ Rd hid h v x := by
  have l := r.length
  have hk : k < xs.length := by rw [← l]; exact (List.getElem?_eq_some_iff.mp e).1
  obtain ⟨w, e2, q⟩ := r.get (k := k) (List.getElem?_eq_getElem hk)
  rw [e] at e2; cases e2
  exact ⟨_, List.getElem?_eq_getElem hk, q⟩

noncomputable abbrev listObj (vs : Array Value) (n : Nat) : Obj := { cls := .type "list", data := .seq vs n }
noncomputable abbrev tupObj (vs : Array Value) (n : Nat) : Obj := { cls := .type "tuple", data := .seq vs n }
theorem Rd.tuple {hid : List Addr} {h : Heap} {a : Addr} {vs : Array Value} {n : Nat} {xs : List PyData} (hb : a ∉ hid) (ho : h.get? a = some (tupObj vs n)) (r : RdAll hid h vs.toList xs) : Rd hid h (.ref a) (.tuple xs) :=
  PR.tuple (hideAll_get _ ho hb) r
theorem Rd.list {hid : List Addr} {h : Heap} {a : Addr} {vs : Array Value} {n : Nat} {xs : List PyData} (hb : a ∉ hid) (ho : h.get? a = some (listObj vs n)) (r : RdAll hid h vs.toList xs) : Rd hid h (.ref a) (.list xs) :=
  PR.list (hideAll_get _ ho hb) r
theorem Rd.list_inv {hid : List Addr} {h : Heap} {v : Value} {xs : List PyData} (r : Rd hid h v (.list xs)) : ∃ a vs n, v = .ref a ∧ a ∉ hid ∧ h.get? a = some (listObj vs n) ∧ RdAll hid h vs.toList xs := by
  cases r with
  | list ho q => obtain ⟨e1, e2⟩ := hid_get ho; exact ⟨_, _, _, rfl, e1, e2, q⟩
theorem Rd.tuple_inv {hid : List Addr} {h : Heap} {v : Value} {xs : List PyData} (r : Rd hid h v (.tuple xs)) : ∃ a vs n, v = .ref a ∧ a ∉ hid ∧ h.get? a = some (tupObj vs n) ∧ RdAll hid h vs.toList xs := by
  cases r with
  | tuple ho q => obtain ⟨e1, e2⟩ := hid_get ho; exact ⟨_, _, _, rfl, e1, e2, q⟩
theorem Rd.dict_inv {hid : List Addr} {h : Heap} {v : Value} {kvs : List (PyData × PyData)} (r : Rd hid h v (.dict kvs)) : ∃ a es n, v = .ref a ∧ a ∉ hid ∧ h.get? a = some ({ cls := .type "dict", data := .dict es n } : Obj) := by
  cases r with
  | dict ho q q' => obtain ⟨e1, e2⟩ := hid_get ho; exact ⟨_, _, _, rfl, e1, e2⟩
theorem Rd.int_inv {hid : List Addr} {h : Heap} {v : Value} {i : Int} (r : Rd hid h v (.int i)) : ∃ t, v = .int i t := by cases r; exact ⟨_, rfl⟩
theorem Rd.str_inv {hid : List Addr} {h : Heap} {v : Value} {i : Str} (r : Rd hid h v (.str i)) : ∃ t, v = .str i t := by cases r; exact ⟨_, rfl⟩
theorem Rd.bool_inv {hid : List Addr} {h : Heap} {v : Value} {i : Bool} (r : Rd hid h v (.bool i)) : v = .bool i := by cases r; rfl
theorem Rd.non_inv {hid : List Addr} {h : Heap} {v : Value} (r : Rd hid h v .none) : v = .none := by cases r; rfl

/-- no tuple -/
noncomputable def NT (o : Obj) : Prop := o.cls = .type "tuple" → ∀ vs n, o.data ≠ .seq vs n
mutual
/-- data without a list or dict within is told without any place that holds no tuple -/
theorem flat_move {hid hid' : List Addr} {h : Heap} (n : ∀ b ∈ hid', ∀ o, h.get? b = some o → NT o) : ∀ {v : Value} {x : PyData}, PR (hideAll h hid) v x → flat x = true → PR (hideAll h hid') v x
  | _, _, .non, _ => .non
  | _, _, .bool b, _ => .bool b
  | _, _, .int i t, _ => .int i t
  | _, _, .str x t, _ => .str x t
  | _, _, .list _ _, f => nomatch f
  | _, _, .tuple e r, f => .tuple (hideAll_get _ (hid_get e).2 fun q => n _ q _ (hid_get e).2 rfl _ _ rfl) (flats_move n r f)
  | _, _, .dict _ _ _, f => nomatch f
theorem flats_move {hid hid' : List Addr} {h : Heap} (n : ∀ b ∈ hid', ∀ o, h.get? b = some o → NT o) : ∀ {v : List Value} {x : List PyData}, PRs (hideAll h hid) v x → flats x = true → PRs (hideAll h hid') v x
  | _, _, .nil, _ => .nil
  | _, _, .cons a b, f => .cons (flat_move n a (Bool.and_eq_true_iff.mp f).1) (flats_move n b (Bool.and_eq_true_iff.mp f).2)
end

end TC

namespace TC
open PySem PySem.W PyProof.Rows

/-! From the model's text to the small language. -/

theorem nope {α : Type} {a : α} {P : Prop} (h : none = some a) : P := nomatch h
structure Cx where
  kd : List (Str × NameKind)
  tb : List (Str × Nat)
  nx : Nat
  fns : List (Str × Nat)
  cls : List (Str × Nat)
  cst : List (Str × Int)
  ow : List Nat

noncomputable def Cx.glob (cx : Cx) (x : Str) : Bool := cx.kd.lookup x == some .globalImplicit && x != "__debug__" && x != "__name__"
noncomputable def Cx.var (cx : Cx) (x : Str) : Option Nat :=
  if x == "__debug__" then none else match cx.kd.lookup x with
    | some .local => cx.tb.lookup x
    | some .cell => cx.tb.lookup x
    | some .free => cx.tb.lookup x
    | _ => none

noncomputable def lowOp : Operator → Option Op
  | .Add => some .add
  | .Sub => some .sub
  | .Mult => some .mul
  | .FloorDiv => some .fdiv
  | .Mod => some .mod
  | _ => none
noncomputable def lowCmp : CmpOp → Option Op
  | .Eq => some .eq
  | .NotEq => some .ne
  | .Lt => some .lt
  | .LtE => some .le
  | .Gt => some .gt
  | .GtE => some .ge
  | .In => some .isin
  | .NotIn => some .notin
  | _ => none
noncomputable def lowL (f : Expr → Option E) : List Expr → Option Es
  | [] => some .nil
  | e :: r => (f e).bind fun a => (lowL f r).map fun b => .cons a b
noncomputable def lowCs (f : Expr → Option E) : List CmpOp → List Expr → Option Cs
  | [o], [e] => (lowCmp o).bind fun o => (f e).map fun a => .cons o a .nil
  | o :: os, e :: es => (lowCmp o).bind fun o => (f e).bind fun a => (lowCs f os es).map fun c => .cons o a c
  | _, _ => none
noncomputable def lowTy (cx : Cx) (x : Str) : Option Ty :=
  if x == "int" then some .int else if x == "bool" then some .bool else if x == "list" then some .list else if x == "tuple" then some .tuple
  else if x == "ValueError" then some .valueError else (cx.cls.lookup x).map .exc
/-- the defs of one argument -/
noncomputable def lowF1 (x : Str) : Option F1 :=
  if x == "len" then some .len else if x == "sum" then some .sum else if x == "max" then some .max else if x == "min" then some .min
  else if x == "list" then some .list else if x == "tuple" then some .tuple else if x == "sorted" then some .sorted else if x == "int" then some .int
  else if x == "all" then some .all else none
noncomputable def lowF2 (x : Str) : Option F2 := if x == "max" then some .max else if x == "min" then some .min else none

noncomputable def relab (kd : List (Str × NameKind)) (names : List (Str × NameKind)) : List (Str × NameKind) :=
  names.map fun p => if p.2 == .free && kd.lookup p.1 == some .cell then (p.1, .cell) else p
/-- the names that a target binds -/
noncomputable def tgtNames : Expr → Option (Option Nat × List Str)
  | .Name x _ => some (none, [x])
  | .Tuple es _ _ => (es.foldr (fun e r => match e, r with | .Name x _, some l => some (x :: l) | _, _ => none) (some [])).map fun l => (some l.length, l)
  | _ => none
noncomputable def freeOf (kd : List (Str × NameKind)) (tb : List (Str × Nat)) (nx : Nat) : List (Str × NameKind) → Option (List (Str × Nat))
  | [] => some []
  | (x, .free) :: r => if kd.lookup x == some .cell || kd.lookup x == some .free then (tb.lookup x).bind fun i => if i < nx then (freeOf kd tb nx r).map ((x, i) :: ·) else none else none
  | _ :: r => freeOf kd tb nx r
/-- no name of the block's own but its targets -/
noncomputable def ownOk (ts : List Str) (names : List (Str × NameKind)) : Bool :=
  names.all fun p => !(p.2 == .local || p.2 == .cell) || p.1 == ".0" || ts.contains p.1
noncomputable def Cx.inner (cx : Cx) (sc : Scope) (ts : List Str) : Option Cx :=
  if sc.kind == .function && ownOk ts sc.names && (sc.names.map (·.1)).Nodup && ts.Nodup && ts.all (fun x => x != "__debug__" && x != ".0" && (sc.names.lookup x == some .local || sc.names.lookup x == some .cell)) then
    (freeOf cx.kd cx.tb cx.nx sc.names).map fun fr => { cx with kd := relab cx.kd sc.names, tb := (ts.zip (List.range' cx.nx ts.length)) ++ fr, nx := cx.nx + ts.length, ow := [] }
  else none

noncomputable def tyName : Expr → Option Str
  | .Name t _ => some t
  | _ => none
noncomputable def isNoneC : Expr → Bool
  | .Constant .none _ _ => true
  | _ => false

noncomputable def lowSrcWith (f : Expr → Option E) (cx : Cx) : Expr → Option Src
  | .Call (.Name x xp) [a] [] p => if x == "range" then (if cx.glob x then (f a).map .rng else none) else (f (.Call (.Name x xp) [a] [] p)).map .dat
  | .Call (.Name x xp) [a, b] [] p => if x == "range" then (if cx.glob x then (f a).bind fun a => (f b).map fun b => .rng2 a b else none) else
      (f (.Call (.Name x xp) [a, b] [] p)).map .dat
  | .Name x p => (f (.Name x p)).map .dat
  | .Subscript a b p => (f (.Subscript a b p)).map .dat
  | .Call a b c p => (f (.Call a b c p)).map .dat
  | .Tuple a b p => (f (.Tuple a b p)).map .dat
  | _ => none

/-- a call of a name of the top -/
noncomputable def lowCallE (le : Expr → Option E) (cx : Cx) (f : Str) (args : List Expr) (kws : List Keyword) : Option E := if !cx.glob f then none else
      match cx.fns.lookup f with
      | some k => if kws.isEmpty then (lowL (le) args).map (.call k) else none
      | none => match args, kws with
        | [a], [] => (lowF1 f).bind fun f => (le a).map (.f1 f)
        | [a], [⟨some k, .Constant (.bool true) _ _, _⟩] => if f == "sorted" && k == "reverse" then (le a).map (.f1 .sortedR) else none
        | [a, b], [] => if f == "isinstance" then (tyName b).bind fun t => (if cx.glob t then (lowTy cx t).bind fun t => (le a).map (.f1 (.isi t)) else none) else (lowF2 f).bind fun f => (le a).bind fun a => (le b).map fun b => .f2 f a b
        | _, _ => none
noncomputable def lowCompE (le : Cx → Expr → Option E) (cx : Cx) (elt : Expr) (gens : List Comprehension) (sc : Scope) : Option E :=
  match gens with
  | [⟨t, iter, ifs, ia⟩] => if ia != 0 then none else
      (tgtNames t).bind fun tn => (lowSrcWith (le cx) cx iter).bind fun src => (cx.inner sc tn.2).bind fun cx' =>
        (le cx' elt).bind fun e => match ifs with
          | [] => some (.comp0 tn.1 src e)
          | [c] => (le cx' c).map fun c => .comp1 tn.1 src c e
          | _ => none
  | _ => none
theorem lowComp_inv {le : Cx → Expr → Option E} {cx : Cx} {elt : Expr} {gens : List Comprehension} {sc : Scope} {e : E} (lo : lowCompE le cx elt gens sc = some e) : ∃ t iter ifs, gens = [⟨t, iter, ifs, 0⟩] ∧ ∃ topt xs src cx' e', tgtNames t = some (topt, xs) ∧ lowSrcWith (le cx) cx iter = some src ∧ cx.inner sc xs = some cx' ∧ le cx' elt = some e' ∧
    ((ifs = [] ∧ e = .comp0 topt src e') ∨ ∃ c c', ifs = [c] ∧ le cx' c = some c' ∧ e = .comp1 topt src c' e') := by
  unfold lowCompE at lo
  split at lo
  · rename_i t iter ifs ia
    split at lo
    · cases lo
    · rename_i hia
      have hia : ia = 0 := by simpa using hia
      subst hia
      obtain ⟨⟨topt, xs⟩, h1, lo⟩ := Option.bind_eq_some_iff.mp lo
      obtain ⟨src, h2, lo⟩ := Option.bind_eq_some_iff.mp lo
      obtain ⟨cx', h3, lo⟩ := Option.bind_eq_some_iff.mp lo
      obtain ⟨e', h4, lo⟩ := Option.bind_eq_some_iff.mp lo
      refine ⟨t, iter, ifs, rfl, topt, xs, src, cx', e', h1, h2, h3, h4, ?_⟩
      split at lo
      · cases lo; exact .inl ⟨rfl, rfl⟩
      · obtain ⟨c', h5, rfl⟩ := Option.map_eq_some_iff.mp lo; exact .inr ⟨_, c', rfl, h5, rfl⟩
      · cases lo
  · cases lo
noncomputable def lowE : Nat → Cx → Expr → Option E
  | 0, _, _ => none
  | n + 1, cx, pe => match pe with
    | .Name x _ => match cx.var x with
      | some i => some (.nm i)
      | none => if cx.glob x then (cx.cst.lookup x).map .int else none
    | .Constant (.int i) _ _ => some (.int i)
    | .Constant (.str s) _ _ => some (.str s)
    | .Constant (.bool b) _ _ => some (.bool b)
    | .Constant .none _ _ => some .none
    | .UnaryOp .Not e _ => (lowE n cx e).map (.f1 .not)
    | .UnaryOp .USub (.Constant (.int i) _ _) _ => some (.int (-i))
    | .BinOp (.Constant (.int a) _ _) .Pow (.Constant (.int b) _ _) _ => if 0 < a && a ≤ 10 && 0 ≤ b && b ≤ 20 then some (.int (a ^ b.toNat)) else none
    | .BinOp l o r _ => (lowOp o).bind fun o => (lowE n cx l).bind fun a => (lowE n cx r).map fun b => .op o a b
    | .BoolOp .And es _ => (lowL (lowE n cx) es).map .and
    | .BoolOp .Or es _ => (lowL (lowE n cx) es).map .or
    | .Compare l [.Is] [r] _ => if isNoneC r then (lowE n cx l).map (.f1 .isNone) else none
    | .Compare l [.IsNot] [r] _ => if isNoneC r then (lowE n cx l).map (.f1 .notNone) else none
    | .Compare l os rs _ => if lastMarks os rs then none else (lowE n cx l).bind fun a => (lowCs (lowE n cx) os rs).map fun c => .cmp a c
    | .Tuple es _ _ => if es.length < 1000 then (lowL (lowE n cx) es).map .tup else none
    | .List es _ => if es.length < 1000 then (lowL (lowE n cx) es).map .lst else none
    | .Dict [] [] _ => some .dic0
    | .Subscript a (.Slice (some i) none none _) _ => (lowE n cx a).bind fun a => (lowE n cx i).map fun i => .sfrom a i
    | .Subscript a (.Slice none (some i) none _) _ => (lowE n cx a).bind fun a => (lowE n cx i).map fun i => .sto a i
    | .Subscript a i _ => (lowE n cx a).bind fun a => (lowE n cx i).map fun i => .idx a i
    | .Call (.Name f _) args kws _ => lowCallE (lowE n cx) cx f args kws
    | .ListComp elt gens sc _ => lowCompE (lowE n) cx elt gens sc
    | _ => none

/-- what a for statement runs over -/
noncomputable def lowSrcL (f : Expr → Option E) (cx : Cx) (iter : Expr) : Option Src :=
  match iter with
  | .Name x _ => (cx.var x).map fun i => .dat (.nm i)
  | iter => match lowSrcWith f cx iter with
    | some (.dat (.nm _)) => none
    | r => r
noncomputable def lowTgt (cx : Cx) : Expr → Option Tgt
  | .Name x _ => (cx.var x).map .one
  | .Tuple es _ _ => (es.foldr (fun e r => match e, r with | .Name x _, some l => (cx.var x).map (· :: l) | _, _ => none) (some [])).map .many
  | _ => none
noncomputable def lowUnp (cx : Cx) : List Expr → Option (List (Bool × Nat))
  | [] => some []
  | .Name x _ :: r => (cx.var x).bind fun i => (lowUnp cx r).map ((cx.ow.contains i, i) :: ·)
  | _ => none

noncomputable def notComp : Expr → Bool
  | .ListComp .. => false
  | _ => true
noncomputable def lowSs (f : Stmt → Option S) : List Stmt → Option Ss
  | [] => some .nil
  | s :: r => (f s).bind fun a => (lowSs f r).map fun b => .cons a b

noncomputable def lowS : Nat → Cx → Stmt → Option S
  | 0, _, _ => none
  | n + 1, cx, st => match st with
    | .Assign [.Name x _] v _ => (cx.var x).bind fun i => (lowE n cx v).map fun e => .asg (cx.ow.contains i) i e
    | .Assign [.Tuple ts _ _] (.Call f args kws p) _ => (lowUnp cx ts).bind fun is => if is.all (fun q => !q.1) && (is.map (·.2)).Nodup then (lowE n cx (.Call f args kws p)).map fun e => .unp is e else none
    | .Assign [.Subscript (.Name x _) k _] v _ => if notComp v then (cx.var x).bind fun i => (lowE n cx k).bind fun k => (lowE n cx v).map fun v => .set i k v else none
    | .Expr (.Call (.Attribute (.Name x _) m ap) [a] [] p) _ => if !(ap.endLine == p.line) then none else (cx.var x).bind fun i => (lowE n cx a).bind fun a => if m == "append" then some (.app i a) else if m == "remove" then some (.rem i a) else none
    | .Expr (.Call (.Name f p1) args kws p2) _ => (lowE n cx (.Call (.Name f p1) args kws p2)).map .drop
    | .If t a b _ => (lowE n cx t).bind fun t => (lowSs (lowS n cx) a).bind fun a => (lowSs (lowS n cx) b).map fun b => .ite t a b
    | .For t iter body [] _ => (lowTgt cx t).bind fun t => (lowSrcL (lowE n cx) cx iter).bind fun src => (lowSs (lowS n cx) body).map fun b => .loop t src b
    | .Return (some (.Name x p)) _ => match cx.var x with
      | some i => some (.retm i)
      | none => (lowE n cx (.Name x p)).map .ret
    | .Return (some (.Tuple es _ _)) _ => if es.length < 1000 then (lowL (lowE n cx) es).map .rett else none
    | .Return (some e) _ => (lowE n cx e).map .ret
    | .Raise (some (.Call (.Name c _) [.Constant (.str _) _ _] [] _)) none _ => if cx.glob c then (cx.cls.lookup c).map .rais else none
    | .Try body [.ExceptHandler (some (.Name c _)) (some x) (h0 :: h) _] [] [] _ => if cx.glob c && cx.kd.lookup x == some .local then (cx.cls.lookup c).bind fun c => (cx.var x).bind fun k => (lowSs (lowS n cx) body).bind fun b => (lowSs (lowS n cx) (h0 :: h)).map fun h => .tryx b c k h else none
    | _ => none

/-- the frame's names, in the order of the scope -/
noncomputable def slotsOf : List (Str × NameKind) → Nat → List (Str × Nat)
  | [], _ => []
  | (x, .local) :: r, n => (x, n) :: slotsOf r (n + 1)
  | (x, .cell) :: r, n => (x, n) :: slotsOf r (n + 1)
  | _ :: r, n => slotsOf r n

structure FnC where
  fn : Fn
  addr : Addr
  ow : List Nat

/-- a def of the text is told by the small one -/
noncomputable def fnMatch (fns cls : List (Str × Nat)) (cst : List (Str × Int)) (fn : Fn) (ow : List Nat) (params : Arguments) (scope : Scope) (body : List Stmt) : Option Ss :=
  let tb := slotsOf scope.names 0
  if scope.kind == .function && !scope.isGenerator && !scope.isCoroutine && (scope.names.map (·.1)).Nodup && scope.names.all (fun p => p.2 != .free)
    && params.posonlyargs.isEmpty && params.vararg.isNone && params.kwonlyargs.isEmpty && params.kwarg.isNone && params.defaults.isEmpty
    && (params.args.map fun a => tb.lookup a.arg) == (List.range fn.np).map some && tb.length == fn.ns then
    lowSs (lowS 40 { kd := scope.names, tb := tb, nx := fn.ns, fns := fns, cls := cls, cst := cst, ow := ow }) body
  else none

end TC

namespace TC
open PySem PySem.W PyProof.Rows

/-! What the small language's words mean in the model. -/

noncomputable def hashD : PyData → Int
  | .int i => hashInt i
  | .tuple xs => reduceHash (Builtin.Tuple.tupleHashOf (((intsOf xs).getD []).map hashInt))
  | _ => 0
noncomputable abbrev dictObj (es : Array DictEntry) (n : Nat) : Obj := { cls := .type "dict", data := .dict es n }

/-- a list or dict of the frame's own, at a -/
noncomputable def OwnAt (hid : List Addr) (h : Heap) (a : Addr) : PyData → Prop
  | .list xs => ∃ vs n, h.get? a = some (listObj vs n) ∧ RdAll (a :: hid) h vs.toList xs
  | .dict kvs => ∃ es n, h.get? a = some (dictObj es n) ∧ RdAll (a :: hid) h (es.toList.map (·.key)) (kvs.map (·.1)) ∧ RdAll (a :: hid) h (es.toList.map (·.val)) (kvs.map (·.2)) ∧ es.toList.map (·.hash) = kvs.map (fun p => hashD p.1)
  | _ => False

/-- an exception of the own class c, raised under no other -/
noncomputable def Bare (h : Heap) (e : Addr) : Prop := ∃ o vs, h.get? e = some o ∧ o.data = .fields vs ∧ vs[2]? = some .none
noncomputable def ExcAt (ca : List Addr) (c : Nat) (h : Heap) (v : Value) : Prop := ∃ e o vs C, v = .ref e ∧ ca[c]? = some C ∧ h.get? e = some o ∧ o.cls = .ref C ∧ o.dict = none ∧ o.data = .fields vs

/-- an exception of the class C at e, new since h₀, on its way -/
noncomputable def Fly (h₀ : Heap) (e C : Addr) (fl : Value) (h : Heap) : Prop :=
  h₀.get? e = none ∧ ∃ oe vs, h.get? e = some oe ∧ oe.cls = .ref C ∧ oe.dict = none ∧ oe.data = .fields vs ∧ vs[2]? = some .none ∧
    ((fl = .none ∧ vs[1]? = some .none) ∨ ∃ T oT ts, vs[1]? = some (.ref T) ∧ h₀.get? T = none ∧ T ≠ e ∧ h.get? T = some oT ∧ oT.data = .fields ts ∧ ts[3]? = some fl)

/-- the parts of a tuple some of which are own, at the places as -/
noncomputable def PartsR (h₁ : Heap) (hid : List Addr) (h : Heap) : List Value → List (Bool × PyData) → List Addr → Prop
  | [], [], [] => True
  | v :: vs, (false, x) :: l, as => Rd hid h v x ∧ PartsR h₁ hid h vs l as
  | v :: vs, (true, x) :: l, a :: as => v = .ref a ∧ h₁.get? a = none ∧ OwnAt hid h a x ∧ PartsR h₁ hid h vs l as
  | _, _, _ => False

/-- a value on the way, reckoned since the heap h₁ -/
noncomputable def TR (ca : List Addr) (h₁ : Heap) (hid fr : List Addr) (h : Heap) (v : Value) : V → Prop
  | .d x => Rd hid h v x
  | .brw x => Rd fr h v x
  | .own x => ∃ a, v = .ref a ∧ h₁.get? a = none ∧ OwnAt hid h a x
  | .ot l => ∃ t vs n as, v = .ref t ∧ h.get? t = some (tupObj vs n) ∧ as.Nodup ∧ PartsR h₁ (as ++ hid) h vs.toList l as
  | .exc c => ExcAt ca c h v

noncomputable def varAt (env : Env) (h : Heap) (x : Str) (v : Value) : Prop :=
  (env.kindOf x = some .local ∧ ∃ m, h.Ns env.locals m ∧ m x = some v) ∨ ((env.kindOf x = some .cell ∨ env.kindOf x = some .free) ∧ ∃ c, env.cells.lookup x = some c ∧ h.IsCell c (some v))

structure Gl where
  prog : Program
  w : World
  K : Frag
  B : Heap
  p : Program
  loose : List Str
  mean : ExcName → Option Value
  mg : Str → Option Value
  mb : Str → Option Value
  fns : List (Str × Nat)
  fa : List Addr
  cls : List (Str × Nat)
  ca : List Addr
  cst : List (Str × Int)
  tab : List Fn

noncomputable def usedNames : List Str := ["len", "sum", "max", "min", "list", "tuple", "sorted", "set", "int", "all", "isinstance", "range", "zip", "reversed", "bool", "ValueError"]

/-- the bases of the own classes: those of ValueError -/
noncomputable def bmV : List Value := [.type "ValueError", .type "Exception", .type "BaseException", .type "object"]
/-- what is asked of an own class of exceptions -/
noncomputable def ownOk1 (K : Frag) (C : Addr) : Bool :=
  findIn K (.ref C) "__getattribute__" == some (some (.builtin "BaseException.__getattribute__")) && findIn K (.ref C) "__getattr__" == some none && mroIn K C (.type "BaseException") == some true && (clsIn K C).isSome && findIn K (.ref C) "__class__" == some (some (.builtin "object.__class__")) && specialIn K (.builtin "object.__class__") "__get__" == some (some (.builtin "getset_descriptor.__get__"))
    && takesIn K (.builtin "object.__class__") == some true && mroIn K C (.type "object") == some true && mroIn K C (.type "ValueError") == some true && typeIn K (.ref C) == some (.type "type")

structure Gl.Ok (G : Gl) : Prop where
  inK : G.K.In G.B
  top : Top G.p G.loose G.mean G.mg G.mb G.B
  fnm : ∀ x k, G.fns.lookup x = some k → ∃ a, G.fa[k]? = some a ∧ nsIn G.K mainGlobals x = some (some (.ref a))
  cnm : ∀ x k, G.cls.lookup x = some k → ∃ a, G.ca[k]? = some a ∧ nsIn G.K mainGlobals x = some (some (.ref a))
  cnst : ∀ x i, G.cst.lookup x = some i → ∃ t, nsIn G.K mainGlobals x = some (some (.int i t))
  bnm : ∀ x ∈ usedNames, nsIn G.K mainGlobals x = some none
  fok : ∀ (k : Nat) a, G.fa[k]? = some a → ∃ (d : DefRec) (fn : Fn) (ow : List Nat), d ∈ recsOf G.p ∧ nsIn G.K mainGlobals d.name = some (some (.ref a)) ∧ G.tab[k]? = some fn ∧ fnMatch G.fns G.cls G.cst fn ow d.params d.scope d.body = some fn.body
    ∧ ∀ (pm code doc : Value) (vals : List Value), vals.length = fn.np → bindArgs (Calls.docDef d.name d.params d.body d.scope pm code doc) ⟨vals, []⟩ = pure ((d.params.args.map (·.arg)).zip vals)
  cok : ∀ (c : Nat) C, G.ca[c]? = some C → ownOk1 G.K C = true
  csub : ∀ (c : Nat) C (c' : Nat) C', G.ca[c]? = some C → G.ca[c']? = some C' → mroIn G.K C (.ref C') = some (c' == 0 || c == c')
  cown : ∀ (c : Nat) C, G.ca[c]? = some C → ∃ x, OwnCls x C bmV "ValueError.__new__" G.mg G.B

noncomputable def HOk (hm : Bool) (A : Around) (h : Heap) : Prop :=
  (hm = false ∧ A.handled = none) ∨ (hm = true ∧ ∃ e, A.handled = some (.ref e) ∧ Bare h e)

structure EnvOk (G : Gl) (cx : Cx) (env : Env) : Prop where
  kind : env.scope.kind = .function
  names : env.scope.names = cx.kd
  glob : env.globals = mainGlobals
  bns : env.builtins = builtinsNs
  fns : cx.fns = G.fns
  cls : cx.cls = G.cls
  cst : cx.cst = G.cst
  cells : ∀ x, (cx.kd.lookup x = some .cell ∨ cx.kd.lookup x = some .free) → ∃ c, env.cells.lookup x = some c
  nocd : ∀ x, cx.kd.lookup x = some .free → (x == ("__classdict__" : Str)) = false

noncomputable def EnvR (ca : List Addr) (env : Env) (tb : List (Str × Nat)) (hid fr : List Addr) (ρ : Rho) (h : Heap) : Prop :=
  ∀ x i, tb.lookup x = some i → ∀ u, ρ[i]? = some (some u) → ∃ v, varAt env h x v ∧ TR ca h hid fr h v (nmV u)

/-- the frames under way, and what the heap holds for them -/
structure Stk (G : Gl) (A : Around) (h : Heap) (fr : List Addr) (envs : List Env) : Prop where
  frames : A.frames = some envs
  fr : fr = envs.filterMap (·.frame)
  funs : h.FunFrames G.B envs
  base : G.B.StaysIn h

structure Sit (G : Gl) (dep : Nat) (cx : Cx) (env : Env) (hm : Bool) (A : Around) (h : Heap) (hid fr : List Addr) (envs : List Env) (ρ : Rho) : Prop where
  stk : Stk G A h fr envs
  depth : A.depth + dep ≤ 900
  units : A.units + 20 * dep ≤ 9000
  hok : HOk hm A h
  sub : ∀ b ∈ fr, b ∈ hid
  dom : ∀ b ∈ hid, ∃ o, h.get? b = some o ∧ NT o
  envok : EnvOk G cx env
  envr : EnvR G.ca env cx.tb hid fr ρ h
  len : ρ.length = cx.nx
  cok : ∀ x c, env.cells.lookup x = some c → ∃ o, h.get? c = some o

noncomputable def Same (s s' : Shared) : Prop := s'.gens = s.gens ∧ s'.os = s.os
theorem Same.refl (s : Shared) : Same s s := ⟨rfl, rfl⟩
theorem Same.trans {a b c : Shared} (x : Same a b) (y : Same b c) : Same a c := ⟨y.1.trans x.1, y.2.trans x.2⟩

/-- an exception of the own class c on its way through the frames -/
noncomputable def Raised (G : Gl) (fr : List Addr) (h : Heap) (e : Addr) (c : Nat) (h' : Heap) : Prop := ∃ C, G.ca[c]? = some C ∧ Fly h e C .none h' ∧ Ext fr h h'
theorem Fly.back {fr : List Addr} {h₀ h₁ h : Heap} {e C : Addr} {fl : Value} (x : Fly h₁ e C fl h) (k : Ext fr h₀ h₁) : Fly h₀ e C fl h := by
  obtain ⟨n, oe, vs, h1, h2, h3, h4, h5, h6⟩ := x
  exact ⟨k.gone n, oe, vs, h1, h2, h3, h4, h5, h6.imp_right fun ⟨T, oT, ts, q1, q2, q3⟩ => ⟨T, oT, ts, q1, k.gone q2, q3⟩⟩
theorem Raised.back {G : Gl} {fr : List Addr} {h₀ h₁ h : Heap} {e : Addr} {c : Nat} (x : Raised G fr h₁ e c h) (k : Ext fr h₀ h₁) : Raised G fr h₀ e c h := by
  obtain ⟨C, h1, h2, h3⟩ := x
  exact ⟨C, h1, h2.back k, k.trans h3⟩
theorem Fly.bare {h₀ h : Heap} {e C : Addr} {fl : Value} (x : Fly h₀ e C fl h) : Bare h e := by
  obtain ⟨n, oe, vs, h1, h2, h3, h4, h5, h6⟩ := x
  exact ⟨oe, vs, h1, h4, h5⟩
theorem Fly.exc {h₀ h : Heap} {e C : Addr} {fl : Value} {ca : List Addr} {c : Nat} (hc : ca[c]? = some C) (x : Fly h₀ e C fl h) : ExcAt ca c h (.ref e) := by
  obtain ⟨n, oe, vs, h1, h2, h3, h4, h5, h6⟩ := x
  exact ⟨e, oe, vs, C, rfl, hc, h1, h2, h3, h4⟩

theorem HOk.ext {hm : Bool} {A : Around} {h h' : Heap} {fr : List Addr} (x : HOk hm A h) (e : Ext fr h h') : HOk hm A h' := by
  rcases x with x | ⟨x, a, y, o, vs, h1, h2, h3⟩
  · exact .inl x
  · obtain ⟨_, sl, q⟩ := e a o h1
    exact .inr ⟨x, a, y, _, vs, q, h2, h3⟩
theorem varAt.ext {env : Env} {h h' : Heap} {x : Str} {v : Value} {fr : List Addr} (y : varAt env h x v) (e : Ext fr h h') : varAt env h' x v := by
  rcases y with ⟨k, m, n, q⟩ | ⟨k, c, n, q⟩
  · exact .inl ⟨k, m, e.ns n, q⟩
  · exact .inr ⟨k, c, n, e.cell q⟩
theorem Stk.ext {G : Gl} {A : Around} {h h' : Heap} {fr : List Addr} {envs : List Env} (x : Stk G A h fr envs) (e : Ext fr h h') : Stk G A h' fr envs where
  frames := x.frames
  fr := x.fr
  funs := x.funs.of_keeps fun b o q _ => let ⟨_, sl, y⟩ := e b o q; ⟨_, y, rfl⟩
  base := e.stays x.base fun b hb => by rw [x.fr] at hb; exact (x.funs.mem hb).1

theorem PartsR.ext {h₁ : Heap} {hid fr : List Addr} {h h' : Heap} (e : Ext fr h h') (s : ∀ b ∈ fr, b ∈ hid) (ow : ∀ {a : Addr} {x : PyData}, OwnAt hid h a x → h₁.get? a = none → OwnAt hid h' a x) :
    ∀ {vs : List Value} {l : List (Bool × PyData)} {as : List Addr}, PartsR h₁ hid h vs l as → PartsR h₁ hid h' vs l as
  | [], [], [], _ => trivial
  | _ :: _, (false, _) :: _, as, ⟨a, b⟩ => ⟨a.ext e s, PartsR.ext e s ow b⟩
  | _ :: _, (true, _) :: _, _ :: _, ⟨a, b, c, d⟩ => ⟨a, b, ow c b, PartsR.ext e s ow d⟩
  | [], [], _ :: _, x => nomatch x
  | [], _ :: _, _, x => nomatch x
  | _ :: _, [], _, x => nomatch x
  | _ :: _, (true, _) :: _, [], x => nomatch x
theorem OwnAt.ext {hid fr : List Addr} {h h' : Heap} {a : Addr} {x : PyData} (r : OwnAt hid h a x) (e : Ext fr h h') (s : ∀ b ∈ fr, b ∈ hid) (n : a ∉ fr) : OwnAt hid h' a x := by
  have s' : ∀ b ∈ fr, b ∈ a :: hid := fun b hb => .tail _ (s b hb)
  cases x with
  | list xs => obtain ⟨vs, m, h1, h2⟩ := r; exact ⟨vs, m, (e _ _ h1).1 n, h2.ext e s'⟩
  | dict kvs => obtain ⟨es, m, h1, h2, h3, h4⟩ := r; exact ⟨es, m, (e _ _ h1).1 n, h2.ext e s', h3.ext e s', h4⟩
  | _ => exact r.elim
theorem TR.ext {ca : List Addr} {h₁ : Heap} {hid fr : List Addr} {h h' : Heap} {v : Value} {u : V} (r : TR ca h₁ hid fr h v u) (e : Ext fr h h') (s : ∀ b ∈ fr, b ∈ hid) (d : ∀ b ∈ fr, ∃ o, h₁.get? b = some o ∧ NT o)
    (e1 : Ext fr h₁ h) : TR ca h₁ hid fr h' v u := by
  have nf : ∀ a : Addr, h₁.get? a = none → a ∉ fr := fun a q hb => by obtain ⟨o, y, _⟩ := d a hb; rw [q] at y; cases y
  cases u with
  | d x => exact Rd.ext r e s
  | brw x => exact Rd.ext r e fun _ b => b
  | own x =>
    obtain ⟨a, rfl, q, r⟩ := r
    exact ⟨a, rfl, q, r.ext e s (nf a q)⟩
  | ot l =>
    obtain ⟨t, vs, n, as, rfl, ht, nd, q⟩ := r
    have nt : t ∉ fr := fun hb => by
      obtain ⟨o, y, z⟩ := d t hb
      obtain ⟨_, sl, y'⟩ := e1 t o y
      rw [ht] at y'
      have q := Option.some.inj y'
      exact z (congrArg Obj.cls q).symm vs n (congrArg Obj.data q).symm
    have s' : ∀ b ∈ fr, b ∈ as ++ hid := fun b hb => List.mem_append_right _ (s b hb)
    exact ⟨t, vs, n, as, rfl, (e _ _ ht).1 nt, nd, PartsR.ext e s' (fun o q => o.ext e s' (nf _ q)) q⟩
  | exc c =>
    obtain ⟨a, o, vs, C, rfl, h1, h2, h3, h4, h5⟩ := r
    obtain ⟨_, sl, q⟩ := e a o h2
    exact ⟨a, _, vs, C, rfl, h1, q, h3, h4, h5⟩
theorem nmV_cases (u : V) : (∃ x, nmV u = .d x) ∨ (∃ x, nmV u = .brw x) ∨ (∃ c, nmV u = .exc c) := by
  cases u with
  | d x => exact .inl ⟨x, rfl⟩
  | own x => exact .inr (.inl ⟨x, rfl⟩)
  | brw x =>
    show (∃ y, low x = .d y) ∨ (∃ y, low x = .brw y) ∨ _
    by_cases f : flat x = true
    · exact .inl ⟨x, by unfold low; rw [if_pos f]⟩
    · exact .inr (.inl ⟨x, by unfold low; rw [if_neg f]⟩)
  | ot l => exact .inr (.inl ⟨_, rfl⟩)
  | exc c => exact .inr (.inr ⟨c, rfl⟩)
theorem EnvR.ext {ca : List Addr} {env : Env} {tb : List (Str × Nat)} {hid fr : List Addr} {ρ : Rho} {h h' : Heap} (r : EnvR ca env tb hid fr ρ h) (e : Ext fr h h') (s : ∀ b ∈ fr, b ∈ hid) : EnvR ca env tb hid fr ρ h' := fun x i q u y => by
  obtain ⟨v, a, b⟩ := r x i q u y
  refine ⟨v, a.ext e, ?_⟩
  rcases nmV_cases u with ⟨z, k⟩ | ⟨z, k⟩ | ⟨z, k⟩ <;> rw [k] at b ⊢
  · exact Rd.ext b e s
  · exact Rd.ext b e fun _ b => b
  · obtain ⟨a', o, vs, C, rfl, h1, h2, h3, h4, h5⟩ := b
    obtain ⟨_, sl, q⟩ := e a' o h2
    exact ⟨a', _, vs, C, rfl, h1, q, h3, h4, h5⟩
theorem Sit.ext {G : Gl} {dep : Nat} {cx : Cx} {env : Env} {hm : Bool} {A : Around} {h h' : Heap} {hid fr : List Addr} {envs : List Env} {ρ : Rho} (x : Sit G dep cx env hm A h hid fr envs ρ) (e : Ext fr h h') :
    Sit G dep cx env hm A h' hid fr envs ρ where
  stk := x.stk.ext e
  depth := x.depth
  units := x.units
  hok := x.hok.ext e
  sub := x.sub
  dom := fun b hb => let ⟨o, q, z⟩ := x.dom b hb; let ⟨_, sl, y⟩ := e b o q; ⟨_, y, z⟩
  envok := x.envok
  envr := x.envr.ext e x.sub
  len := x.len
  cok := fun y c q => e.dom (x.cok y c q)

end TC

namespace TC
open PySem PySem.W PyProof.Rows

noncomputable def Dom (hid : List Addr) (h : Heap) : Prop := ∀ b ∈ hid, ∃ o, h.get? b = some o ∧ NT o
theorem Dom.ext {hid fr : List Addr} {h h' : Heap} (x : Dom hid h) (e : Ext fr h h') : Dom hid h' := fun b hb => let ⟨o, q, z⟩ := x b hb; let ⟨_, sl, y⟩ := e b o q; ⟨_, y, z⟩
theorem Dom.fresh {hid : List Addr} {h : Heap} (x : Dom hid h) {a : Addr} (e : h.get? a = none) : a ∉ hid := fun q => by obtain ⟨o, y, _⟩ := x a q; rw [e] at y; cases y
theorem Dom.notup {hid : List Addr} {h : Heap} (x : Dom hid h) : ∀ b ∈ hid, ∀ o, h.get? b = some o → NT o := fun b hb o e => by
  obtain ⟨o', y, z⟩ := x b hb; rw [e] at y; cases y; exact z
theorem size_none (h : Heap) : h.get? h.objs.size = none := by
  cases q : h.get? h.objs.size with
  | none => rfl
  | some o => exact absurd (Heap.lt_size q) (Nat.lt_irrefl _)
theorem ext_push (fr : List Addr) (h : Heap) (o : Obj) : Ext fr h (h.push o) := Ext.of_keeps fun _ _ e => Heap.get?_push_of_some _ e

theorem OwnAt.there {hid : List Addr} {h : Heap} {a : Addr} {x : PyData} (r : OwnAt hid h a x) : ∃ o, h.get? a = some o ∧ NT o := by
  cases x with
  | list xs => obtain ⟨vs, m, h1, h2⟩ := r; exact ⟨_, h1, fun e => by simp at e⟩
  | dict kvs => obtain ⟨es, m, h1, _⟩ := r; exact ⟨_, h1, fun e => by simp at e⟩
  | _ => exact r.elim
theorem OwnAt.rd {hid hid' : List Addr} {h : Heap} {a : Addr} {x : PyData} (r : OwnAt hid h a x) (n : a ∉ hid') (s : ∀ b ∈ hid', b ∈ hid) : Rd hid' h (.ref a) x := by
  have s' : ∀ b ∈ hid', b ∈ a :: hid := fun b hb => .tail _ (s b hb)
  cases x with
  | list xs => obtain ⟨vs, m, h1, h2⟩ := r; exact Rd.list n h1 (h2.anti s')
  | dict kvs => obtain ⟨es, m, h1, h2, h3, _⟩ := r; exact PR.dict (hideAll_get _ h1 n) (h2.anti s') (h3.anti s')
  | _ => exact r.elim
theorem OwnAt.reads {hid : List Addr} {h : Heap} {a : Addr} {x : PyData} (r : OwnAt hid h a x) : ∃ as, Reads h (.ref a) x as :=
  Rd.reads (hid := []) (r.rd (by simp) (by simp))
theorem OwnAt.anti {hid hid' : List Addr} {h : Heap} {a : Addr} {x : PyData} (r : OwnAt hid h a x) (s : ∀ b ∈ hid', b ∈ hid) : OwnAt hid' h a x := by
  have s' : ∀ b ∈ a :: hid', b ∈ a :: hid := fun b hb => by
    rcases List.mem_cons.mp hb with rfl | hb
    · exact .head _
    · exact .tail _ (s b hb)
  cases x with
  | list xs => obtain ⟨vs, m, h1, h2⟩ := r; exact ⟨vs, m, h1, h2.anti s'⟩
  | dict kvs => obtain ⟨es, m, h1, h2, h3, h4⟩ := r; exact ⟨es, m, h1, h2.anti s', h3.anti s', h4⟩
  | _ => exact r.elim

theorem PartsR.rdAll {h₁ : Heap} {hid : List Addr} {h : Heap} (hid' : List Addr) (s : ∀ b ∈ hid', b ∈ hid) (n : ∀ a, h₁.get? a = none → a ∉ hid') :
    ∀ {vs : List Value} {l : List (Bool × PyData)} {as : List Addr}, PartsR h₁ hid h vs l as → RdAll hid' h vs (l.map (·.2))
  | [], [], [], _ => .nil _ _
  | _ :: _, (false, _) :: _, as, ⟨a, b⟩ => .cons (a.anti s) (PartsR.rdAll hid' s n b)
  | _ :: _, (true, _) :: _, _ :: _, ⟨a, b, c, d⟩ => .cons (a ▸ c.rd (n _ b) s) (PartsR.rdAll hid' s n d)
  | [], [], _ :: _, x => nomatch x
  | [], _ :: _, _, x => nomatch x
  | _ :: _, [], _, x => nomatch x
  | _ :: _, (true, _) :: _, [], x => nomatch x
/-- a value on the way, as plain data in the heap without the frames -/
theorem TR.rdf {ca : List Addr} {h₁ : Heap} {hid fr : List Addr} {h : Heap} {v : Value} {u : V} {x : PyData} (r : TR ca h₁ hid fr h v u) (s : ∀ b ∈ fr, b ∈ hid) (D : Dom hid h₁) (D' : Dom hid h) (e : rd u = some x) : Rd fr h v x := by
  have nf : ∀ a, h₁.get? a = none → a ∉ fr := fun a q hb => D.fresh q (s a hb)
  cases u with
  | d y => cases e; exact Rd.anti r s
  | brw y => cases e; exact r
  | own y => cases e; obtain ⟨a, rfl, q, r⟩ := r; exact r.rd (nf a q) s
  | ot l =>
    cases e
    obtain ⟨t, vs, n, as, rfl, ht, nd, q⟩ := r
    exact Rd.tuple (fun hb => D'.notup _ (s _ hb) _ ht rfl _ _ rfl) ht (PartsR.rdAll fr (fun b hb => List.mem_append_right _ (s b hb)) nf q)
  | exc c => cases e
theorem TR.reads {ca : List Addr} {h₁ : Heap} {hid fr : List Addr} {h : Heap} {v : Value} {u : V} {x : PyData} (r : TR ca h₁ hid fr h v u) (s : ∀ b ∈ fr, b ∈ hid) (D : Dom hid h₁) (D' : Dom hid h) (e : rd u = some x) : ∃ as, Reads h v x as :=
  (r.rdf s D D' e).reads
theorem TR.keep {ca : List Addr} {h₁ : Heap} {hid fr : List Addr} {h : Heap} {v : Value} {u : V} {x : PyData} (r : TR ca h₁ hid fr h v u) (D : Dom hid h₁) (D' : Dom hid h) (e : kp u = some x) : Rd hid h v x := by
  cases u with
  | d y => cases e; exact r
  | brw y =>
    replace e : (if flat y = true then some y else none) = some x := e
    split at e
    · rename_i f; cases e; exact flat_move D'.notup (hid := fr) r f
    · cases e
  | own y => cases e; obtain ⟨a, rfl, q, r⟩ := r; exact r.rd (D.fresh q) fun _ b => b
  | ot l =>
    cases e
    obtain ⟨t, vs, n, as, rfl, ht, nd, q⟩ := r
    exact Rd.tuple (fun hb => D'.notup _ hb _ ht rfl _ _ rfl) ht (PartsR.rdAll hid (fun b hb => List.mem_append_right _ hb) (fun a q => D.fresh q) q)
  | exc c => cases e
theorem TR.ls {ca : List Addr} {h₁ : Heap} {hid fr : List Addr} {h : Heap} {v : Value} {u : V} {xs : List PyData} (r : TR ca h₁ hid fr h v u) (D' : Dom hid h) (e : lsV u = some xs) :
    ∃ a vs n, v = .ref a ∧ h.get? a = some (listObj vs n) ∧ RdAll hid h vs.toList xs := by
  unfold lsV at e
  split at e
  · cases e; obtain ⟨a, vs, n, h1, _, h2, h3⟩ := Rd.list_inv r; exact ⟨a, vs, n, h1, h2, h3⟩
  · cases e; obtain ⟨a, rfl, q, vs, n, h1, h2⟩ := r; exact ⟨a, vs, n, rfl, h1, h2.anti fun b hb => .tail _ hb⟩
  · split at e
    · rename_i f; cases e; obtain ⟨a, vs, n, h1, _, h2, h3⟩ := Rd.list_inv r; exact ⟨a, vs, n, h1, h2, flats_move D'.notup h3 f⟩
    · cases e
  · cases e
theorem TR.back {ca : List Addr} {h₀ h₁ : Heap} {hid fr : List Addr} {h : Heap} {v : Value} {u : V} (r : TR ca h₁ hid fr h v u) (e : Ext fr h₀ h₁) : TR ca h₀ hid fr h v u := by
  cases u with
  | d y => exact r
  | brw y => exact r
  | own y => obtain ⟨a, rfl, q, r⟩ := r; exact ⟨a, rfl, e.gone q, r⟩
  | ot l =>
    obtain ⟨t, vs, n, as, rfl, ht, nd, q⟩ := r
    refine ⟨t, vs, n, as, rfl, ht, nd, ?_⟩
    clear ht nd
    generalize as ++ hid = hid' at q
    generalize vs.toList = ws at q
    induction ws generalizing l as with
    | nil => cases l <;> cases as <;> first | exact q | trivial
    | cons w ws ih =>
      match l, as, q with
      | (false, _) :: _, as, ⟨a, b⟩ => exact ⟨a, ih _ _ b⟩
      | (true, _) :: _, _ :: _, ⟨a, b, c, d⟩ => exact ⟨a, e.gone b, c, ih _ _ d⟩
  | exc c => exact r
theorem own_push {ca : List Addr} {hid fr : List Addr} {h : Heap} {vs : Array Value} {xs : List PyData} (n : Nat) (r : RdAll hid h vs.toList xs) : TR ca h hid fr (h.push (listObj vs n)) (.ref h.objs.size) (.own (.list xs)) :=
  ⟨_, rfl, size_none h, vs, n, Heap.get?_push_size _ rfl, r.move fun b o hb e => ⟨fun q => (List.mem_cons.mp q).elim (fun q => by rw [q, size_none] at e; cases e) hb, Heap.get?_push_of_some _ e⟩⟩
theorem tup_push {hid : List Addr} {h : Heap} (D : Dom hid h) {vs : Array Value} {xs : List PyData} (n : Nat) (r : RdAll hid h vs.toList xs) : Rd hid (h.push (tupObj vs n)) (.ref h.objs.size) (.tuple xs) :=
  Rd.tuple (D.fresh (size_none h)) (Heap.get?_push_size _ rfl) (r.move fun b o hb e => ⟨hb, Heap.get?_push_of_some _ e⟩)

section
variable {prog : Program} {w : World} {A : Around} {E : Value → Shared → Prop} {s : Shared} {ca : List Addr} {h₁ h₂ : Heap} {hid fr : List Addr} {v1 v2 : Value} {u1 u2 u : V}

/-- the ends that a step of the model leaves -/
noncomputable abbrev Then (ca : List Addr) (hid fr : List Addr) (s : Shared) (u : V) (Q : Value → Shared → Prop) : Prop := ∀ v s', TR ca s.heap hid fr s'.heap v u → Ext fr s.heap s'.heap → Same s s' → Q v s'
theorem Then.int {Q : Value → Shared → Prop} {i : Int} (h : Then ca hid fr s (.d (.int i)) Q) (t tk : Tok) : Q (.int i t) { s with toks := tk } := h _ _ (Rd.int _ _ _ _) (Ext.refl _ _) ⟨rfl, rfl⟩
theorem Then.bool {Q : Value → Shared → Prop} {b : Bool} (h : Then ca hid fr s (.d (.bool b)) Q) (tk : Tok) : Q (.bool b) { s with toks := tk } := h _ _ (Rd.bool _ _ _) (Ext.refl _ _) ⟨rfl, rfl⟩
theorem Then.bool' {Q : Value → Shared → Prop} {b : Bool} (h : Then ca hid fr s (.d (.bool b)) Q) : Q (.bool b) s := h.bool s.toks

theorem num_bin {po : Operator} {o : Op} (lo : lowOp po = some o) {a b : Int} {t1 t2 : Tok} {z : PyData} (ev : o.num a b = some z) {Q : Value → Shared → Prop} (h : Then ca hid fr s (.d z) Q) :
    wpAny (model prog w) A (binaryOp po (.int a t1) (.int b t2)) Q E s := by
  cases po <;> cases lo <;> unfold Op.num at ev
  · cases ev; exact add_int (h.int _ _)
  · cases ev; exact sub_int (h.int _ _)
  · dsimp only at ev
    split at ev
    · rename_i c; cases ev; exact mul_int (h.int _ _) c
    · cases ev
  · dsimp only at ev
    split at ev
    · cases ev
    · rename_i c; cases ev; exact mod_int' c (h.int _ _)
  · dsimp only at ev
    split at ev
    · rename_i c; cases ev; exact floordiv_int c.1 (h.int _ _) (.inl (PyProof.noPylong_small c.2))
    · cases ev

theorem list_cat {a b : Addr} {vs ws : Array Value} {n m : Nat} {xs ys : List PyData} (h1 : s.heap.get? a = some (listObj vs n)) (h2 : s.heap.get? b = some (listObj ws m)) (r1 : RdAll hid s.heap vs.toList xs) (r2 : RdAll hid s.heap ws.toList ys)
    (hz : xs.length + ys.length < lim) {Q : Value → Shared → Prop} (h : Then ca hid fr s (.own (.list (xs ++ ys))) Q) : wpAny (model prog w) A (binaryOp .Add (.ref a) (.ref b)) Q E s := by
  have l1 := r1.length
  have l2 := r2.length
  rw [Array.length_toList] at l1 l2
  refine P.add_list h1 h2 ?_ (by rw [sizeLine_eq, l1, l2]; rw [lim_eq] at hz; omega)
  refine h _ _ (own_push 0 ?_) (ext_push _ _ _) ⟨rfl, rfl⟩
  rw [Array.toList_append]
  exact r1.append r2
theorem foldl_cat (its : Array Value) : ∀ (k : Nat) (acc : Array Value), (List.foldl (fun x1 x2 => x1 ++ x2) acc (List.replicate k its)).toList = acc.toList ++ (List.replicate k its.toList).flatten
  | 0, acc => by simp
  | k + 1, acc => by
    rw [List.replicate_succ, List.foldl_cons, foldl_cat its k, List.replicate_succ, List.flatten_cons, Array.toList_append, List.append_assoc]
theorem RdAll.rep {hid : List Addr} {h : Heap} {vs : List Value} {xs : List PyData} (r : RdAll hid h vs xs) : ∀ k : Nat, RdAll hid h (List.replicate k vs).flatten (List.replicate k xs).flatten
  | 0 => .nil _ _
  | k + 1 => by rw [List.replicate_succ, List.replicate_succ, List.flatten_cons, List.flatten_cons]; exact r.append (r.rep k)
theorem list_rep {a : Addr} {vs : Array Value} {n : Nat} {xs : List PyData} {k : Int} {t : Tok} (h1 : s.heap.get? a = some (listObj vs n)) (r1 : RdAll hid s.heap vs.toList xs) (hk : 0 ≤ k) (hk' : k < lim)
    (hz : xs.length * k.toNat < lim) {Q : Value → Shared → Prop} (h : Then ca hid fr s (.own (.list (List.replicate k.toNat xs).flatten)) Q) : wpAny (model prog w) A (binaryOp .Mult (.ref a) (.int k t)) Q E s := by
  have l1 := r1.length
  rw [Array.length_toList] at l1
  rw [lim_eq] at hz hk'
  refine wpAny_binaryOp_repeat_ref (T := "list") (U := "int") (by decide) ⟨_, h1, rfl⟩ (fun s' => typeIs_int s' k t) noFill_list_mul F.fills_int_mul F.slot_int_rmul repeat_list F.slot_int_index.lookup
    (call_meets F.slot_int_rmul (typeIs_int s k t) F.entry_int_rmul (F.args_int_rmul_2 _ _) (int___rmul___int_list k t a vs n)
      ⟨h1, rfl, ⟨_, h1, rfl⟩, call_meets F.slot_list_mul ⟨_, h1, rfl⟩ F.entry_list_mul (F.args_list_mul_2 _ _)
        (AutoListH.list___mul___list_int_3 a vs n k t (by simp [Builtin.List.listFitsIndex]; omega) (by rw [l1]; omega) (by simp [Builtin.List.listTooLong, sizeLine, l1]; omega))
        ⟨h1, ?_⟩⟩)
  refine h _ _ (own_push 0 ?_) (ext_push _ _ _) ⟨rfl, rfl⟩
  rw [foldl_cat]
  cases he : vs.isEmpty with
  | true =>
    have : vs = #[] := by simpa using he
    subst this
    have hx : xs = [] := by simpa using l1.symm
    subst hx
    simp
    exact .nil _ _
  | false => simpa using r1.rep k.toNat

theorem bin_ok {po : Operator} {o : Op} (lo : lowOp po = some o) (ev : o.ev u1 u2 = some u) (sub : ∀ b ∈ fr, b ∈ hid) (D1 : Dom hid h₁) (D2 : Dom hid h₂) (D : Dom hid s.heap)
    (r1 : TR ca h₁ hid fr s.heap v1 u1) (r2 : TR ca h₂ hid fr s.heap v2 u2) {Q : Value → Shared → Prop} (h : Then ca hid fr s u Q) : wpAny (model prog w) A (binaryOp po v1 v2) Q E s := by
  have key : ∃ x y, rd u1 = some x ∧ rd u2 = some y ∧ (match x, y with
      | .int a, .int b => (o.num a b).map V.d
      | .list _, .list _ => match o with
        | .add => (lsV u1).bind fun xs => (lsV u2).bind fun ys => if xs.length + ys.length < lim then some (V.own (.list (xs ++ ys))) else none
        | _ => none
      | .list _, .int k => match o with
        | .mul => (lsV u1).bind fun xs => if 0 ≤ k ∧ k < lim ∧ xs.length * k.toNat < lim then some (V.own (.list (List.replicate k.toNat xs).flatten)) else none
        | _ => none
      | _, _ => none) = some u := by
    unfold Op.ev at ev
    obtain ⟨x, e1, ev⟩ := Option.bind_eq_some_iff.mp ev
    obtain ⟨y, e2, ev⟩ := Option.bind_eq_some_iff.mp ev
    refine ⟨x, y, e1, e2, ?_⟩
    cases po <;> cases lo <;> exact ev
  obtain ⟨x, y, e1, e2, ev⟩ := key
  have R1 := r1.rdf sub D1 D e1
  have R2 := r2.rdf sub D2 D e2
  split at ev
  · obtain ⟨t1, rfl⟩ := R1.int_inv
    obtain ⟨t2, rfl⟩ := R2.int_inv
    obtain ⟨z, e3, rfl⟩ := Option.map_eq_some_iff.mp ev
    exact num_bin lo e3 h
  · split at ev
    · obtain ⟨xs, e3, ev⟩ := Option.bind_eq_some_iff.mp ev
      obtain ⟨ys, e4, ev⟩ := Option.bind_eq_some_iff.mp ev
      split at ev
      · rename_i hz
        cases ev
        obtain ⟨a, vs, n, rfl, h1, k1⟩ := r1.ls D e3
        obtain ⟨b, ws, m, rfl, h2, k2⟩ := r2.ls D e4
        rename lowOp _ = some Op.add => lo'
        obtain rfl : po = .Add := by cases po <;> first | rfl | cases lo'
        exact list_cat h1 h2 k1 k2 hz h
      · cases ev
    · cases ev
  · split at ev
    · obtain ⟨xs, e3, ev⟩ := Option.bind_eq_some_iff.mp ev
      split at ev
      · rename_i hz
        cases ev
        obtain ⟨a, vs, n, rfl, h1, k1⟩ := r1.ls D e3
        obtain ⟨t2, rfl⟩ := R2.int_inv
        rename lowOp _ = some Op.mul => lo'
        obtain rfl : po = .Mult := by cases po <;> first | rfl | cases lo'
        exact list_rep h1 k1 hz.1 hz.2.1 hz.2.2 h
      · cases ev
    · cases ev
  · cases ev

theorem in_dict_ok {x : PyData} {kvs : List (PyData × PyData)} {b : Bool} (e : inD x (.dict kvs) = some b) (hu : A.units + 100 < cLine) (r1 : Rd fr s.heap v1 x) (r2 : Rd fr s.heap v2 (.dict kvs)) (neg : Bool)
    {Q : Value → Shared → Prop} (h : Then ca hid fr s (.d (.bool (neg ^^ b))) Q) : wpAny (model prog w) A (compareOp (if neg then .NotIn else .In) v1 v2) Q E s := nomatch e

theorem num_inv {o : Op} {u1 u2 u : V} (ho : o = .lt ∨ o = .le ∨ o = .gt ∨ o = .ge) (ev : o.ev u1 u2 = some u) : ∃ i j, rd u1 = some (.int i) ∧ rd u2 = some (.int j) ∧ (o.num i j).map V.d = some u := by
  unfold Op.ev at ev
  obtain ⟨x, e1, ev⟩ := Option.bind_eq_some_iff.mp ev
  obtain ⟨y, e2, ev⟩ := Option.bind_eq_some_iff.mp ev
  rw [e1, e2]
  clear e1 e2
  rcases ho with rfl | rfl | rfl | rfl <;>
  · cases x with
    | int i => cases y with
      | int j => exact ⟨i, j, rfl, rfl, ev⟩
      | _ => exact nope ev
    | list xs => cases y <;> exact nope ev
    | _ => exact nope ev

theorem cmp_ok {po : CmpOp} {o : Op} (lo : lowCmp po = some o) (ev : o.ev u1 u2 = some u) (hu : A.units + 100 < cLine) (sub : ∀ b ∈ fr, b ∈ hid) (D1 : Dom hid h₁) (D2 : Dom hid h₂) (D : Dom hid s.heap)
    (r1 : TR ca h₁ hid fr s.heap v1 u1) (r2 : TR ca h₂ hid fr s.heap v2 u2) {Q : Value → Shared → Prop} (h : Then ca hid fr s u Q) : wpAny (model prog w) A (compareOp po v1 v2) Q E s := by
  have ev0 := ev
  unfold Op.ev at ev
  obtain ⟨x, e1, ev⟩ := Option.bind_eq_some_iff.mp ev
  obtain ⟨y, e2, ev⟩ := Option.bind_eq_some_iff.mp ev
  have R1 := r1.rdf sub D1 D e1
  have R2 := r2.rdf sub D2 D e2
  obtain ⟨as, q1⟩ := R1.reads
  obtain ⟨bs, q2⟩ := R2.reads
  have eqs : ∀ {b : Bool}, eqD x y = some b → SeqAt.shaped x = true ∧ SeqAt.shaped y = true ∧ b = PyData.eqv x y := fun {b} e => by
    unfold eqD at e
    split at e
    · rename_i c; cases e; exact ⟨(Bool.and_eq_true_iff.mp c).1, (Bool.and_eq_true_iff.mp c).2, rfl⟩
    · cases e
  have ins : ∀ (neg : Bool) {b : Bool}, inD x y = some b → Then ca hid fr s (.d (.bool (neg ^^ b))) Q → wpAny (model prog w) A (compareOp (if neg then .NotIn else .In) v1 v2) Q E s := fun neg {b} e h => by
    cases y with
    | dict kvs => exact in_dict_ok e hu R1 R2 neg h
    | list ys =>
      replace e : (if (SeqAt.shaped x && SeqAt.shaped (.list ys)) = true then some (ys.any fun z => PyData.eqv z x) else none) = some b := e
      split at e
      · rename_i c
        cases e
        have c1 := (Bool.and_eq_true_iff.mp c).1
        have c2 := (Bool.and_eq_true_iff.mp c).2
        cases neg with
        | false => exact SeqAt.in_list_reads q2 q1 (SeqAt.canLay_of_shaped c2) (SeqAt.canLay_of_shaped c1) (room_in_shaped c1 (by omega)) (by simpa using h.bool')
        | true => exact SeqAt.notIn_list_reads q2 q1 (SeqAt.canLay_of_shaped c2) (SeqAt.canLay_of_shaped c1) (room_in_shaped c1 (by omega)) (by simpa using h.bool')
      · cases e
    | tuple ys =>
      replace e : (if (SeqAt.shaped x && SeqAt.shaped (.tuple ys)) = true then some (ys.any fun z => PyData.eqv z x) else none) = some b := e
      split at e
      · rename_i c
        cases e
        have c1 := (Bool.and_eq_true_iff.mp c).1
        have c2 := (Bool.and_eq_true_iff.mp c).2
        cases neg with
        | false => exact SeqAt.in_tuple_reads q2 q1 (SeqAt.canLay_of_shaped c2) (SeqAt.canLay_of_shaped c1) (room_in_shaped c1 (by omega)) (by simpa using h.bool')
        | true => exact SeqAt.notIn_tuple_reads q2 q1 (SeqAt.canLay_of_shaped c2) (SeqAt.canLay_of_shaped c1) (room_in_shaped c1 (by omega)) (by simpa using h.bool')
      · cases e
    | _ => cases e
  have nums : (o = .lt ∨ o = .le ∨ o = .gt ∨ o = .ge) → ∃ i j, (o.num i j).map V.d = some u ∧ (∃ t1, v1 = .int i t1) ∧ ∃ t2, v2 = .int j t2 := fun ho => by
    obtain ⟨i, j, a1, a2, a3⟩ := num_inv ho ev0
    rw [e1] at a1; cases a1
    rw [e2] at a2; cases a2
    exact ⟨i, j, a3, R1.int_inv, R2.int_inv⟩
  cases po with
  | Eq =>
    cases lo
    obtain ⟨b, e, rfl⟩ := Option.map_eq_some_iff.mp ev
    obtain ⟨c1, c2, rfl⟩ := eqs e
    exact SeqAt.compareEq_shaped q1 q2 c1 c2 (by omega) h.bool'
  | NotEq =>
    cases lo
    obtain ⟨b, e, rfl⟩ := Option.map_eq_some_iff.mp ev
    obtain ⟨c1, c2, rfl⟩ := eqs e
    exact SeqAt.compareNe_shaped q1 q2 c1 c2 (by omega) h.bool'
  | In =>
    cases lo
    obtain ⟨b, e, rfl⟩ := Option.map_eq_some_iff.mp ev
    exact ins false e (by simpa using h)
  | NotIn =>
    cases lo
    obtain ⟨b, e, rfl⟩ := Option.map_eq_some_iff.mp ev
    exact ins true e (by simpa using h)
  | Is => cases lo
  | IsNot => cases lo
  | Lt =>
    cases lo
    obtain ⟨i, j, e3, ⟨t1, rfl⟩, t2, rfl⟩ := nums (by simp)
    cases e3
    exact P.lt_int h.bool'
  | LtE =>
    cases lo
    obtain ⟨i, j, e3, ⟨t1, rfl⟩, t2, rfl⟩ := nums (by simp)
    cases e3
    exact P.le_int h.bool'
  | Gt =>
    cases lo
    obtain ⟨i, j, e3, ⟨t1, rfl⟩, t2, rfl⟩ := nums (by simp)
    cases e3
    exact P.gt_int h.bool'
  | GtE =>
    cases lo
    obtain ⟨i, j, e3, ⟨t1, rfl⟩, t2, rfl⟩ := nums (by simp)
    cases e3
    exact P.ge_int h.bool'

end

end TC

namespace TC
open PySem PySem.W PyProof.Rows

/-! Iteration, under a handled exception too. -/
section
variable {prog : Program} {w : World} {A : Around} {s : Shared} {hm : Bool}

theorem HOk.in1 {h : Heap} (x : HOk hm A h) : HOk hm A.in1 h := x

set_option maxRecDepth 100000 in
theorem unchain_ok {v : Value} {e : Addr} (hb : Bare s.heap e) {Q : Value → Shared → Prop} {E : Value → Shared → Prop} (h : Q .none s) :
    wpAny (model prog w) A (runValue (.builtin "proto.unchain" ⟨[v, .ref e, .ref e, .bool false], []⟩)) Q E s := by
  obtain ⟨o, vs, h1, h2, h3⟩ := hb
  refine wpAny_runValue (codeAny_builtin (b := Builtin.«proto.unchain») (entryFor_of_tree (by kernel_rfl)) ?_)
  show wpAny _ _ (field (.ref e) 2 >>= _) _ _ s
  refine wpAny_bind (wpAny_field h1 h2 h3 ?_)
  show wpAny _ _ (if (Value.none == Value.none) = true then _ else _) _ _ s
  rw [if_pos (show (Value.none == Value.none) = true from rfl)]
  exact wpAny_pure h

theorem stop_ok {α : Type} (hk : HOk hm A s.heap) {Q : α → Shared → Prop} {E : Value → Shared → Prop}
    (h : ∀ x h', (∀ b o, s.heap.get? b = some o → h'.get? b = some o) → (∃ o, h'.get? x = some o ∧ o.cls = .type "StopIteration") → E (.ref x) { s with heap := h' }) :
    wpAny (model prog w) A (newExc (.type "StopIteration") [] >>= fun e => (raiseNew e : Sem α)) Q E s := by
  refine wpAny_bind ?_
  simp only [newExc, newTuple]
  refine wpAny_bind (wpAny_newObj_type ?_ (by size_fits))
  refine wpAny_bind (m := firstArgMember _ _) (wpAny_of_eq (a := Value.none) (by first | rfl | (simp only [firstArgMember]; rfl)) ?_)
  refine wpAny_newObj_type ?_ (by size_fits)
  have old : ∀ (o1 o2 : Obj) b o, s.heap.get? b = some o → ((s.heap.push o1).push o2).get? b = some o := fun o1 o2 b o e => Heap.get?_push_of_some _ (Heap.get?_push_of_some _ e)
  simp only [raiseNew]
  refine wpAny_bind (wpAny_handled ?_)
  rcases hk with ⟨_, e⟩ | ⟨_, e, e1, hb⟩
  · rw [e]
    refine wpAny_bind (wpAny_pure (wpAny_throw ?_))
    exact h _ _ (old _ _) ⟨_, Heap.get?_push_size _ rfl, rfl⟩
  · rw [e1]
    have lt : e < s.heap.objs.size := by obtain ⟨o, vs, q, _⟩ := hb; exact Heap.lt_size q
    have ne : e ≠ (s.heap.push { cls := .type "tuple", data := .seq ([] : List Value).toArray }).objs.size := by rw [Heap.size_push]; exact Nat.ne_of_lt (Nat.lt_succ_of_lt lt)
    dsimp only
    rw [if_pos (by simp only [bne_iff_ne, ne_eq, Value.ref.injEq]; exact ne)]
    refine wpAny_bind (wpAny_holding (unchain_ok ?_ ?_))
    · obtain ⟨o, vs, q, r⟩ := hb; exact ⟨o, vs, old _ _ _ _ q, r⟩
    · refine wpAny_bind ?_
      show wpAny _ _ (setField (.ref _) 2 _) _ _ _
      refine wpAny_setField (Heap.get?_push_size _ rfl) rfl (by rw [Array.size_append]; exact Nat.lt_of_lt_of_le (show 2 < 6 from by decide) (Nat.le_add_right _ _)) (wpAny_throw ?_)
      refine h _ _ (fun b o q => ?_) ⟨_, Heap.get?_update_self _ (Heap.get?_push_size _ rfl) rfl, rfl⟩
      rw [Heap.get?_update_other]
      · exact old _ _ _ _ q
      · have := Heap.lt_size q; rw [Heap.size_push]; exact Nat.ne_of_gt (Nat.lt_succ_of_lt this)

theorem list_end {it l : Addr} {i : Nat} {items : Array Value} {Q : Option Value → Shared → Prop} {E : Value → Shared → Prop} (hk : HOk hm A s.heap) (hne : ∀ e, A.handled = some (.ref e) → e ≠ it)
    (hit : s.heap.IsListIter it l i) (hl : s.heap.IsList l items) (hx : items[i]? = none)
    (hQ : ∀ h', Heap.ExtBut it s.heap h' → Q none { s with heap := h' }) : wpAny (model prog w) A (pyNext (.ref it)) Q E s := by
  obtain ⟨o, ho, hc, hd⟩ := id hit
  obtain ⟨ol, hol, _, nl, hdl⟩ := hl
  unfold pyNext
  refine wpAny_bind (wpAny_attempt (wpAny_callSpecial?_slot (name := Str.ofString "__next__") hit.typeIs slot_listiter_next
    (wpAny_call_entry slot_listiter_next hit.typeIs entry_listiter_next ?_ (args_listiter_next _))))
  show wpAny _ _ (field (.ref it) 0 >>= _) _ _ s
  refine wpAny_bind (wpAny_field ho hd (x := .ref l) rfl ?_)
  show wpAny _ _ (if (Value.ref l == Value.none) = true then _ else _) _ _ s
  rw [if_neg (show ¬ ((Value.ref l == Value.none) = true) from Bool.false_ne_true)]
  show wpAny _ _ (field (.ref it) 1 >>= _) _ _ s
  refine wpAny_bind (wpAny_field ho hd (x := .int i 0) rfl ?_)
  show wpAny _ _ (seqItems? (.ref l) >>= _) _ _ s
  refine wpAny_bind (wpAny_seqItems hol hdl ?_)
  simp only [Int.toNat_natCast, hx]
  refine wpAny_bind (wpAny_rule (wpAny_bind (wpAny_setField ho hd (by simp) ?_)))
  show wpAny _ _ (newExc (.type "StopIteration") [] >>= _) _ _ _
  refine stop_ok (hm := hm) ?_ fun x h' keep ty => ?_
  · rcases hk with q | ⟨q, e, e1, oe, vs, q1, q2, q3⟩
    · exact .inl q
    · exact .inr ⟨q, e, e1, oe, vs, (Heap.get?_update_other _ _ (Ne.symm (hne e e1))).trans q1, q2, q3⟩
  refine wpAny_bind (wpAny_isInstance (T := "StopIteration") (b := true) ty isSubtype_stop ?_)
  exact wpAny_pure (hQ _ fun b o hb e => keep b o ((Heap.get?_update_other _ _ (Ne.symm hb)).trans e))

theorem tuple_end {it l : Addr} {i : Nat} {items : Array Value} {Q : Option Value → Shared → Prop} {E : Value → Shared → Prop} (hk : HOk hm A s.heap) (hne : ∀ e, A.handled = some (.ref e) → e ≠ it)
    (hit : s.heap.IsTupleIter it l i) (hl : s.heap.IsTuple l items) (hx : items[i]? = none)
    (hQ : ∀ h', Heap.ExtBut it s.heap h' → Q none { s with heap := h' }) : wpAny (model prog w) A (pyNext (.ref it)) Q E s := by
  obtain ⟨o, ho, hc, hd⟩ := id hit
  obtain ⟨ol, hol, _, nl, hdl⟩ := hl
  unfold pyNext
  refine wpAny_bind (wpAny_attempt (wpAny_callSpecial?_slot (name := Str.ofString "__next__") hit.typeIs F.slot_tuple_iterator_next
    (wpAny_call_entry F.slot_tuple_iterator_next hit.typeIs F.entry_tuple_iterator_next ?_ (F.args_tuple_iterator_next_1 _))))
  show wpAny _ _ (field (.ref it) 0 >>= _) _ _ s
  refine wpAny_bind (wpAny_field ho hd (x := .ref l) rfl ?_)
  show wpAny _ _ (if (Value.ref l == Value.none) = true then _ else _) _ _ s
  rw [if_neg (show ¬ ((Value.ref l == Value.none) = true) from Bool.false_ne_true)]
  show wpAny _ _ (field (.ref it) 1 >>= _) _ _ s
  refine wpAny_bind (wpAny_field ho hd (x := .int i 0) rfl ?_)
  show wpAny _ _ (seqItems? (.ref l) >>= _) _ _ s
  refine wpAny_bind (wpAny_seqItems hol hdl ?_)
  simp only [Int.toNat_natCast, hx]
  refine wpAny_bind (wpAny_rule (wpAny_bind (wpAny_setField ho hd (by simp) ?_)))
  show wpAny _ _ (newExc (.type "StopIteration") [] >>= _) _ _ _
  refine stop_ok (hm := hm) ?_ fun x h' keep ty => ?_
  · rcases hk with q | ⟨q, e, e1, oe, vs, q1, q2, q3⟩
    · exact .inl q
    · exact .inr ⟨q, e, e1, oe, vs, (Heap.get?_update_other _ _ (Ne.symm (hne e e1))).trans q1, q2, q3⟩
  refine wpAny_bind (wpAny_isInstance (T := "StopIteration") (b := true) ty isSubtype_stop ?_)
  exact wpAny_pure (hQ _ fun b o hb e => keep b o ((Heap.get?_update_other _ _ (Ne.symm hb)).trans e))

/-- the place of the handled exception -/
noncomputable def hAddr (A : Around) : List Addr := match A.handled with
  | some (.ref e) => [e]
  | _ => []
theorem hAddr_of {e : Addr} (h : A.handled = some (.ref e)) : hAddr A = [e] := by unfold hAddr; rw [h]
theorem HOk.at {h h' : Heap} (x : HOk hm A h) (k : ∀ b ∈ hAddr A, ∀ o, h.get? b = some o → h'.get? b = some o) : HOk hm A h' := by
  rcases x with q | ⟨q, e, e1, o, vs, q1, q2⟩
  · exact .inl q
  · exact .inr ⟨q, e, e1, o, vs, k e (by rw [hAddr_of e1]; simp) o q1, q2⟩
theorem HOk.lt {h : Heap} (x : HOk hm A h) : ∀ b ∈ hAddr A, b < h.objs.size := fun b hb => by
  rcases x with ⟨_, q⟩ | ⟨q, e, e1, o, vs, q1, q2⟩
  · unfold hAddr at hb; rw [q] at hb; cases hb
  · rw [hAddr_of e1] at hb; simp only [List.mem_singleton] at hb; subst hb; exact Heap.lt_size q1

theorem walks_list (I ax : Addr) (hne : ax ≠ I) (hI : I ∉ hAddr A) (items : Array Value) :
    Walks prog w A I (I :: ax :: hAddr A) [I] items.size (fun i v => items[i]? = some v) (fun i h => h.IsListIter I ax i ∧ h.IsList ax items ∧ HOk hm A h) where
  sub := fun b hb => by simp at hb; simp [hb]
  frame := fun _ _ _ st hk => ⟨st.1.at fun o e => hk I (by simp) o e, st.2.1.at fun o e => hk ax (by simp) o e, st.2.2.at fun b hb o e => hk b (by simp [hb]) o e⟩
  item := fun i s Q E hi st hQ => by
    refine wpAny_pyNext_list_item st.1 st.2.1 (x := items[i]) (by simp [hi]) fun h' hit' hs' => ?_
    exact hQ _ h' s.toks (by simp [hi]) ⟨hit', st.2.1.extBut hs'.extBut hne, st.2.2.at fun b hb o e => hs'.extBut b o (fun q => hI (q ▸ hb)) e⟩ fun b o hb e => hs'.extBut b o (fun h => hb (by simp [h])) e
  done := fun s Q E st hQ => list_end st.2.2 (fun e q z => hI (by rw [hAddr_of q]; simp [z])) st.1 st.2.1 (by simp) fun h' he' => hQ h' s.toks fun b o hb e => he' b o (fun h => hb (by simp [h])) e
  self := fun _ _ _ _ st hQ => wpAny_pyIter_listiter st.1 hQ
theorem walks_tuple (I ax : Addr) (hne : ax ≠ I) (hI : I ∉ hAddr A) (items : Array Value) :
    Walks prog w A I (I :: ax :: hAddr A) [I] items.size (fun i v => items[i]? = some v) (fun i h => h.IsTupleIter I ax i ∧ h.IsTuple ax items ∧ HOk hm A h) where
  sub := fun b hb => by simp at hb; simp [hb]
  frame := fun _ _ _ st hk => ⟨st.1.at fun o e => hk I (by simp) o e, st.2.1.at fun o e => hk ax (by simp) o e, st.2.2.at fun b hb o e => hk b (by simp [hb]) o e⟩
  item := fun i s Q E hi st hQ => by
    refine wpAny_pyNext_tuple_item st.1 st.2.1 (x := items[i]) (by simp [hi]) fun h' hit' hs' => ?_
    exact hQ _ h' s.toks (by simp [hi]) ⟨hit', st.2.1.extBut hs'.extBut hne, st.2.2.at fun b hb o e => hs'.extBut b o (fun q => hI (q ▸ hb)) e⟩ fun b o hb e => hs'.extBut b o (fun h => hb (by simp [h])) e
  done := fun s Q E st hQ => tuple_end st.2.2 (fun e q z => hI (by rw [hAddr_of q]; simp [z])) st.1 st.2.1 (by simp) fun h' he' => hQ h' s.toks fun b o hb e => he' b o (fun h => hb (by simp [h])) e
  self := fun _ _ _ _ st hQ => wpAny_pyIter_tupleiter st.1 hQ

/-- an iterator over the values vs, at I -/
noncomputable def Iter (prog : Program) (w : World) (A : Around) (I : Addr) (vs : List Value) (h : Heap) : Prop :=
  ∃ fp P St, Walks prog w A I fp [I] vs.length P St ∧ St 0 h ∧ (∀ b ∈ fp, b < h.objs.size) ∧ ∀ i v, P i v → vs[i]? = some v

theorem iter_list {a : Addr} {vs : Array Value} {n : Nat} (hk : HOk hm A s.heap) (ho : s.heap.get? a = some (listObj vs n)) {Q : Value → Shared → Prop} {E : Value → Shared → Prop}
    (h : ∀ h', (∀ b o, s.heap.get? b = some o → h'.get? b = some o) → Iter prog w A s.heap.objs.size vs.toList h' → Q (.ref s.heap.objs.size) { s with heap := h' }) : wpAny (model prog w) A (pyIter (.ref a)) Q E s := by
  have hl : s.heap.IsList a vs := ⟨_, ho, rfl, n, rfl⟩
  have lt := Heap.lt_size ho
  refine wpAny_pyIter_list hl (h _ (fun b o e => Heap.get?_push_of_some _ e) ?_)
  refine ⟨s.heap.objs.size :: a :: hAddr A, fun i v => vs[i]? = some v, fun i h => h.IsListIter s.heap.objs.size a i ∧ h.IsList a vs ∧ HOk hm A h, ?_, ⟨⟨_, Heap.get?_push_size _ rfl, rfl, rfl⟩, hl.push _, hk.at fun b hb o e => Heap.get?_push_of_some _ e⟩, fun b hb => ?_, ?_⟩
  · rw [Array.length_toList]; exact walks_list _ a (Nat.ne_of_lt lt) (fun q => Nat.lt_irrefl _ (hk.lt _ q)) vs
  · rw [Heap.size_push]
    rcases List.mem_cons.mp hb with rfl | hb
    · exact Nat.lt_succ_self _
    · rcases List.mem_cons.mp hb with rfl | hb
      · exact Nat.lt_succ_of_lt lt
      · exact Nat.lt_succ_of_lt (hk.lt _ hb)
  · intro i v e; rw [← Array.getElem?_toList] at e; exact e
theorem iter_tuple {a : Addr} {vs : Array Value} {n : Nat} (hk : HOk hm A s.heap) (ho : s.heap.get? a = some (tupObj vs n)) {Q : Value → Shared → Prop} {E : Value → Shared → Prop}
    (h : ∀ h', (∀ b o, s.heap.get? b = some o → h'.get? b = some o) → Iter prog w A s.heap.objs.size vs.toList h' → Q (.ref s.heap.objs.size) { s with heap := h' }) : wpAny (model prog w) A (pyIter (.ref a)) Q E s := by
  have hl : s.heap.IsTuple a vs := ⟨_, ho, rfl, n, rfl⟩
  have lt := Heap.lt_size ho
  refine wpAny_pyIter_tuple hl (h _ (fun b o e => Heap.get?_push_of_some _ e) ?_)
  refine ⟨s.heap.objs.size :: a :: hAddr A, fun i v => vs[i]? = some v, fun i h => h.IsTupleIter s.heap.objs.size a i ∧ h.IsTuple a vs ∧ HOk hm A h, ?_, ⟨⟨_, Heap.get?_push_size _ rfl, rfl, rfl⟩, hl.push _, hk.at fun b hb o e => Heap.get?_push_of_some _ e⟩, fun b hb => ?_, ?_⟩
  · rw [Array.length_toList]; exact walks_tuple _ a (Nat.ne_of_lt lt) (fun q => Nat.lt_irrefl _ (hk.lt _ q)) vs
  · rw [Heap.size_push]
    rcases List.mem_cons.mp hb with rfl | hb
    · exact Nat.lt_succ_self _
    · rcases List.mem_cons.mp hb with rfl | hb
      · exact Nat.lt_succ_of_lt lt
      · exact Nat.lt_succ_of_lt (hk.lt _ hb)
  · intro i v e; rw [← Array.getElem?_toList] at e; exact e
theorem iter_seq {v : Value} {x : PyData} {hid : List Addr} {xs : List PyData} (hk : HOk hm A s.heap) (r : Rd hid s.heap v x) (e : seqOf x = some xs) {Q : Value → Shared → Prop} {E : Value → Shared → Prop}
    (h : ∀ h' vs, RdAll hid s.heap vs xs → (∀ b o, s.heap.get? b = some o → h'.get? b = some o) → Iter prog w A s.heap.objs.size vs h' → Q (.ref s.heap.objs.size) { s with heap := h' }) : wpAny (model prog w) A (pyIter v) Q E s := by
  cases x with
  | list ys => cases e; obtain ⟨a, vs, n, rfl, _, ho, q⟩ := r.list_inv; exact iter_list hk ho fun h' k i => h h' _ q k i
  | tuple ys => cases e; obtain ⟨a, vs, n, rfl, _, ho, q⟩ := r.tuple_inv; exact iter_tuple hk ho fun h' k i => h h' _ q k i
  | _ => cases e
end

end TC

namespace TC
open PySem PySem.W PyProof.Rows

/-! The built-in functions. -/

theorem ints_are {hid : List Addr} {h : Heap} : ∀ {vs : List Value} {xs : List PyData} {is : List Int}, RdAll hid h vs xs → intsOf xs = some is → IntsAre vs is
  | [], xs, is, r, e => by cases r; cases e; exact .nil
  | v :: vs, xs, is, r, e => by
    obtain ⟨y, ys, rfl, a, b⟩ := r.split
    cases y with
    | int i =>
      obtain ⟨js, e1, rfl⟩ := Option.map_eq_some_iff.mp (show (intsOf ys).map (i :: ·) = some is from e)
      obtain ⟨t, rfl⟩ := a.int_inv
      exact .cons i t (ints_are b e1)
    | _ => cases e
theorem ints_back {hid : List Addr} {h : Heap} : ∀ {vs : List Value} {is : List Int}, IntsAre vs is → RdAll hid h vs (ofInts is)
  | _, _, .nil => .nil _ _
  | _, _, .cons n t r => .cons (Rd.int _ _ _ _) (ints_back r)
theorem ints_get {vs : List Value} {is : List Int} (r : IntsAre vs is) : ∀ (i : Nat) (v : Value), vs[i]? = some v → ∃ t, v = .int (is.getD i 0) t := by
  induction r with
  | nil => intro i v e; cases e
  | cons n t r ih =>
    intro i v e
    cases i with
    | zero => cases e; exact ⟨t, rfl⟩
    | succ i => obtain ⟨u, q⟩ := ih i v (by simpa using e); exact ⟨u, by simpa using q⟩
theorem intsOf_ofInts : ∀ is : List Int, intsOf (ofInts is) = some is
  | [] => rfl
  | i :: is => by show (intsOf (ofInts is)).map (i :: ·) = _; rw [intsOf_ofInts is]; rfl
theorem intsOf_length : ∀ {xs : List PyData} {is : List Int}, intsOf xs = some is → is.length = xs.length
  | [], is, e => by cases e; rfl
  | x :: xs, is, e => by
    cases x with
    | int i =>
      obtain ⟨js, e1, rfl⟩ := Option.map_eq_some_iff.mp (show (intsOf xs).map (i :: ·) = some is from e)
      simp [intsOf_length e1]
    | _ => cases e
theorem intsOf_eq : ∀ {xs : List PyData} {is : List Int}, intsOf xs = some is → xs = ofInts is
  | [], is, e => by cases e; rfl
  | x :: xs, is, e => by
    cases x with
    | int i =>
      obtain ⟨js, e1, rfl⟩ := Option.map_eq_some_iff.mp (show (intsOf xs).map (i :: ·) = some is from e)
      rw [intsOf_eq e1]; rfl
    | _ => cases e
theorem preSum_get (is : List Int) : ∀ k, k ≤ is.length → preSum (fun i => is.getD i 0) k = (is.take k).sum
  | 0, _ => rfl
  | k + 1, h => by
    have hk : k < is.length := h
    have e : (is.take (k + 1)).sum = (is.take k).sum + is[k] := by rw [List.take_add_one, List.getElem?_eq_getElem hk, List.sum_append]; simp
    rw [preSum, preSum_get is k (Nat.le_of_lt hk), e]
    simp [hk]
theorem foldl_max : ∀ (r : List Int) (a : Int), (r.foldl max a ∈ a :: r) ∧ ∀ x ∈ a :: r, x ≤ r.foldl max a
  | [], a => by simp
  | b :: r, a => by
    obtain ⟨h1, h2⟩ := foldl_max r (max a b)
    simp only [List.foldl_cons]
    refine ⟨?_, fun x hx => ?_⟩
    · rcases List.mem_cons.mp h1 with e | e
      · rw [e]; rcases Int.le_total a b with q | q
        · rw [Int.max_eq_right q]; simp
        · rw [Int.max_eq_left q]; simp
      · simp [e]
    · have h3 := h2 (max a b) (by simp)
      simp only [List.mem_cons] at hx
      rcases hx with rfl | rfl | hx
      · exact Int.le_trans (Int.le_max_left _ _) h3
      · exact Int.le_trans (Int.le_max_right _ _) h3
      · exact h2 x (by simp [hx])
theorem foldl_min : ∀ (r : List Int) (a : Int), (r.foldl min a ∈ a :: r) ∧ ∀ x ∈ a :: r, r.foldl min a ≤ x
  | [], a => by simp
  | b :: r, a => by
    obtain ⟨h1, h2⟩ := foldl_min r (min a b)
    simp only [List.foldl_cons]
    refine ⟨?_, fun x hx => ?_⟩
    · rcases List.mem_cons.mp h1 with e | e
      · rw [e]; rcases Int.le_total a b with q | q
        · rw [Int.min_eq_left q]; simp
        · rw [Int.min_eq_right q]; simp
      · simp [e]
    · have h3 := h2 (min a b) (by simp)
      simp only [List.mem_cons] at hx
      rcases hx with rfl | rfl | hx
      · exact Int.le_trans h3 (Int.min_le_left _ _)
      · exact Int.le_trans h3 (Int.min_le_right _ _)
      · exact h2 x (by simp [hx])
theorem maxL_spec {is : List Int} {m : Int} (h : maxL is = some m) : m ∈ is ∧ ∀ x ∈ is, x ≤ m := by
  cases is with
  | nil => cases h
  | cons a r => cases h; exact foldl_max r a
theorem minL_spec {is : List Int} {m : Int} (h : minL is = some m) : m ∈ is ∧ ∀ x ∈ is, m ≤ x := by
  cases is with
  | nil => cases h
  | cons a r => cases h; exact foldl_min r a
theorem maxL_of {is : List Int} {m : Int} (h1 : m ∈ is) (h2 : ∀ x ∈ is, x ≤ m) : maxL is = some m := by
  cases e : maxL is with
  | none => cases is with | nil => cases h1 | cons => cases e
  | some m' => obtain ⟨a, b⟩ := maxL_spec e; exact congrArg some (Int.le_antisymm (h2 m' a) (b m h1))
theorem minL_of {is : List Int} {m : Int} (h1 : m ∈ is) (h2 : ∀ x ∈ is, m ≤ x) : minL is = some m := by
  cases e : minL is with
  | none => cases is with | nil => cases h1 | cons => cases e
  | some m' => obtain ⟨a, b⟩ := minL_spec e; exact congrArg some (Int.le_antisymm (b m h1) (h2 m' a))
theorem perm_sorted_eq : ∀ {a b : List Int}, a.Perm b → a.Pairwise (· ≤ ·) → b.Pairwise (· ≤ ·) → a = b
  | [], b, p, _, _ => by rw [List.nil_perm] at p; exact p.symm
  | x :: a, [], p, _, _ => by rw [List.perm_nil] at p; cases p
  | x :: a, y :: b, p, h1, h2 => by
    obtain ⟨h1a, h1b⟩ := List.pairwise_cons.mp h1
    obtain ⟨h2a, h2b⟩ := List.pairwise_cons.mp h2
    have hxy : x = y := by
      have mx : x ∈ y :: b := p.mem_iff.mp (by simp)
      have my : y ∈ x :: a := p.mem_iff.mpr (by simp)
      rcases List.mem_cons.mp mx with e | e
      · exact e
      · rcases List.mem_cons.mp my with e' | e'
        · exact e'.symm
        · exact Int.le_antisymm (h1a y e') (h2a x e)
    subst hxy
    rw [perm_sorted_eq (List.Perm.cons_inv p) h1b h2b]
theorem sortI_sorted (is : List Int) : (sortI is).Pairwise (· ≤ ·) := by
  have := List.pairwise_mergeSort (le := fun a b : Int => decide (a ≤ b)) (by intro a b c h1 h2; simp at *; omega) (by intro a b; simp; omega) is
  exact this.imp (by intro a b h; simpa using h)
theorem sortI_perm (is : List Int) : (sortI is).Perm is := List.mergeSort_perm ..
theorem sortI_eq {a is : List Int} (p : a.Perm is) (h : a.Pairwise (· ≤ ·)) : a = sortI is := perm_sorted_eq (p.trans (sortI_perm is).symm) h (sortI_sorted is)
theorem sortI_rev_eq {a is : List Int} (p : a.Perm is) (h : a.Pairwise (· ≥ ·)) : a = (sortI is).reverse := by
  have := sortI_eq (a := a.reverse) (is := is) ((List.reverse_perm a).trans p) (List.pairwise_reverse.mpr (h.imp fun q => q))
  rw [← this, List.reverse_reverse]

section
variable {prog : Program} {w : World} {A : Around} {E : Value → Shared → Prop} {s : Shared} {ca : List Addr} {h₁ h₂ : Heap} {hid fr : List Addr} {v1 v2 : Value} {u1 u2 u : V} {hm : Bool}

theorem old_iter {h h' h'' : Heap} {I : Addr} (k : ∀ b o, h.get? b = some o → h'.get? b = some o) (hI : I = h.objs.size) (q : ∀ b o, b ∉ [I] → h'.get? b = some o → h''.get? b = some o) : ∀ b o, h.get? b = some o → h''.get? b = some o := fun b o e =>
  q b o (fun z => by have := Heap.lt_size e; simp only [List.mem_singleton] at z; rw [z, hI] at this; exact Nat.lt_irrefl _ this) (k b o e)
theorem Then.keeps_int {Q : Value → Shared → Prop} {i : Int} (h : Then ca hid fr s (.d (.int i)) Q) (t : Tok) {h' : Heap} (k : ∀ b o, s.heap.get? b = some o → h'.get? b = some o) (tk : Tok) : Q (.int i t) { s with heap := h', toks := tk } :=
  h _ _ (Rd.int _ _ _ _) (Ext.of_keeps k) ⟨rfl, rfl⟩
theorem Then.keeps_bool {Q : Value → Shared → Prop} {i : Bool} (h : Then ca hid fr s (.d (.bool i)) Q) {h' : Heap} (k : ∀ b o, s.heap.get? b = some o → h'.get? b = some o) (tk : Tok) : Q (.bool i) { s with heap := h', toks := tk } :=
  h _ _ (Rd.bool _ _ _) (Ext.of_keeps k) ⟨rfl, rfl⟩
/-- a new list at a place that was free, all else kept -/
theorem own_new {h h' : Heap} {a : Addr} {vs : Array Value} {n : Nat} {xs : List PyData} (k : ∀ b o, h.get? b = some o → h'.get? b = some o) (na : h.get? a = none) (ha : h'.get? a = some (listObj vs n)) (r : RdAll hid h vs.toList xs) :
    TR ca h hid fr h' (.ref a) (.own (.list xs)) :=
  ⟨a, rfl, na, vs, n, ha, r.move fun b o hb e => ⟨fun q => (List.mem_cons.mp q).elim (fun q => by rw [q, na] at e; cases e) hb, k b o e⟩⟩

theorem len_call {x : PyData} {xs : List PyData} (r : Rd fr s.heap v1 x) (e : seqOf x = some xs) (hz : xs.length < lim) {Q : Value → Shared → Prop} (h : Then ca hid fr s (.d (.int xs.length)) Q) :
    wpAny (model prog w) A (call (.builtin "len") [v1]) Q E s := by
  rw [lim_eq] at hz
  cases x with
  | list ys =>
    cases e
    obtain ⟨a, vs, n, rfl, _, ho, q⟩ := r.list_inv
    have l := q.length
    rw [Array.length_toList] at l
    exact Calls.call_len_list ⟨_, ho, rfl, n, rfl⟩ (by rw [l]; omega) (by rw [l]; exact h.int _ _)
  | tuple ys =>
    cases e
    obtain ⟨a, vs, n, rfl, _, ho, q⟩ := r.tuple_inv
    have l := q.length
    rw [Array.length_toList] at l
    exact len_tuple ⟨_, ho, rfl, n, rfl⟩ (by rw [l]; omega) (by rw [l]; exact h.int _ _)
  | _ => cases e

theorem sum_call {x : PyData} {xs : List PyData} {is : List Int} (hk : HOk hm A s.heap) (r : Rd fr s.heap v1 x) (e : seqOf x = some xs) (ei : intsOf xs = some is) {Q : Value → Shared → Prop} (h : Then ca hid fr s (.d (.int is.sum)) Q) :
    wpAny (model prog w) A (call (.builtin "sum") [v1]) Q E s := by
  refine call_sum_walkG (iter_seq (A := A.in1) hk.in1 r e fun h' vs q k it => ?_)
  obtain ⟨fp, P, St, W, st, lt, hP⟩ := it
  have I := ints_are q ei
  refine ⟨_, fp, _, _, P, St, fun i => is.getD i 0, rfl, W, st, lt, fun i v p => ints_get I i v (hP i v p), fun h'' tk t' kk => ?_⟩
  have l : vs.length = is.length := by rw [q.length, intsOf_length ei]
  rw [l, preSum_get is _ (Nat.le_refl _), List.take_length]
  exact h.keeps_int t' (old_iter k rfl kk) tk

theorem max_call {x : PyData} {xs : List PyData} {is : List Int} {m : Int} (hk : HOk hm A s.heap) (r : Rd fr s.heap v1 x) (e : seqOf x = some xs) (ei : intsOf xs = some is) (em : maxL is = some m) {Q : Value → Shared → Prop} (h : Then ca hid fr s (.d (.int m)) Q) :
    wpAny (model prog w) A (call (.builtin "max") [v1]) Q E s := by
  refine call_max_walk (iter_seq (A := A.in1) hk.in1 r e fun h' vs q k it => ?_)
  obtain ⟨fp, P, St, W, st, lt, hP⟩ := it
  have I := ints_are q ei
  have l : vs.length = is.length := by rw [q.length, intsOf_length ei]
  have hpos : 0 < is.length := by cases is with | nil => cases em | cons => simp
  refine ⟨_, fp, _, _, P, St, _, rfl, W, st, lt, by rw [l]; exact hpos, CmpOf.ints_gt (fun i => is.getD i 0) (fun i v p => ints_get I i v (hP i v p)), fun v h'' tk p kk => ?_⟩
  obtain ⟨t, rfl⟩ := ints_get I _ v (hP _ v p)
  obtain ⟨b1, b2⟩ := argBest_gt (fun i => is.getD i 0) (vs.length - 1)
  rw [l] at b1 b2 ⊢
  have hlt : argBest (fun i j => decide (is.getD i 0 > is.getD j 0)) (is.length - 1) < is.length := by omega
  have em' := maxL_of (is := is) (m := is.getD (argBest (fun i j => decide (is.getD i 0 > is.getD j 0)) (is.length - 1)) 0) (by
      rw [List.getD_eq_getElem?_getD, List.getElem?_eq_getElem hlt]; exact List.getElem_mem hlt) (fun y hy => by
      obtain ⟨j, hj, rfl⟩ := List.getElem_of_mem hy
      have := b2 j (by omega)
      rwa [List.getD_eq_getElem?_getD (i := j), List.getElem?_eq_getElem hj] at this)
  rw [em] at em'
  cases em'
  exact h.keeps_int t (old_iter k rfl kk) tk
theorem min_call {x : PyData} {xs : List PyData} {is : List Int} {m : Int} (hk : HOk hm A s.heap) (r : Rd fr s.heap v1 x) (e : seqOf x = some xs) (ei : intsOf xs = some is) (em : minL is = some m) {Q : Value → Shared → Prop} (h : Then ca hid fr s (.d (.int m)) Q) :
    wpAny (model prog w) A (call (.builtin "min") [v1]) Q E s := by
  refine call_min_walk (iter_seq (A := A.in1) hk.in1 r e fun h' vs q k it => ?_)
  obtain ⟨fp, P, St, W, st, lt, hP⟩ := it
  have I := ints_are q ei
  have l : vs.length = is.length := by rw [q.length, intsOf_length ei]
  have hpos : 0 < is.length := by cases is with | nil => cases em | cons => simp
  refine ⟨_, fp, _, _, P, St, _, rfl, W, st, lt, by rw [l]; exact hpos, CmpOf.ints_lt (fun i => is.getD i 0) (fun i v p => ints_get I i v (hP i v p)), fun v h'' tk p kk => ?_⟩
  obtain ⟨t, rfl⟩ := ints_get I _ v (hP _ v p)
  obtain ⟨b1, b2⟩ := argBest_lt (fun i => is.getD i 0) (vs.length - 1)
  rw [l] at b1 b2 ⊢
  have hlt : argBest (fun i j => decide (is.getD i 0 < is.getD j 0)) (is.length - 1) < is.length := by omega
  have em' := minL_of (is := is) (m := is.getD (argBest (fun i j => decide (is.getD i 0 < is.getD j 0)) (is.length - 1)) 0) (by
      rw [List.getD_eq_getElem?_getD, List.getElem?_eq_getElem hlt]; exact List.getElem_mem hlt) (fun y hy => by
      obtain ⟨j, hj, rfl⟩ := List.getElem_of_mem hy
      have := b2 j (by omega)
      rwa [List.getD_eq_getElem?_getD (i := j), List.getElem?_eq_getElem hj] at this)
  rw [em] at em'
  cases em'
  exact h.keeps_int t (old_iter k rfl kk) tk

theorem bools_get {vs : List Value} {hid : List Addr} {h : Heap} : ∀ {vs : List Value} {xs : List PyData} {bs : List Bool}, RdAll hid h vs xs → boolsOf xs = some bs → bs.length = vs.length ∧ ∀ (i : Nat) (v : Value), vs[i]? = some v → v = .bool (bs.getD i true)
  | [], xs, bs, r, e => by cases r; cases e; exact ⟨rfl, fun i v q => by cases q⟩
  | v :: vs, xs, bs, r, e => by
    obtain ⟨y, ys, rfl, a, b⟩ := r.split
    cases y with
    | bool i =>
      obtain ⟨js, e1, rfl⟩ := Option.map_eq_some_iff.mp (show (boolsOf ys).map (i :: ·) = some bs from e)
      obtain rfl := a.bool_inv
      obtain ⟨i1, i2⟩ := bools_get (vs := vs) b e1
      refine ⟨by simp [i1], fun k w q => ?_⟩
      cases k with
      | zero => cases q; rfl
      | succ k => simpa using i2 k w (by simpa using q)
    | _ => cases e
theorem all_call {x : PyData} {xs : List PyData} {bs : List Bool} (hk : HOk hm A s.heap) (r : Rd fr s.heap v1 x) (e : seqOf x = some xs) (ei : boolsOf xs = some bs) {Q : Value → Shared → Prop} (h : Then ca hid fr s (.d (.bool (bs.all id))) Q) :
    wpAny (model prog w) A (call (.builtin "all") [v1]) Q E s := by
  refine call_all_walk (iter_seq (A := A.in1) hk.in1 r e fun h' vs q k it => ?_)
  obtain ⟨fp, P, St, W, st, lt, hP⟩ := it
  obtain ⟨l, B⟩ := bools_get (vs := vs) q ei
  refine ⟨_, fp, _, _, P, St, fun i => bs.getD i true, rfl, W, st, fun i v s Q E p hq => ?_, fun h'' tk kk => ?_⟩
  · rw [B i v (hP i v p)]; exact wpAny_truthy_bool hq
  · have : (List.range vs.length).all (fun i => bs.getD i true) = bs.all id := by
      rw [← l, Bool.eq_iff_iff, List.all_eq_true, List.all_eq_true]
      constructor
      · intro H y hy
        obtain ⟨j, hj, rfl⟩ := List.getElem_of_mem hy
        have := H j (List.mem_range.mpr hj)
        rwa [List.getD_eq_getElem?_getD, List.getElem?_eq_getElem hj] at this
      · intro H j hj
        have hj := List.mem_range.mp hj
        have := H _ (List.getElem_mem hj)
        rw [List.getD_eq_getElem?_getD, List.getElem?_eq_getElem hj]
        exact this
    rw [this]
    exact h.keeps_bool (old_iter k rfl kk) tk

theorem list_call {a : Addr} {vs : Array Value} {n : Nat} {xs : List PyData} (ho : s.heap.get? a = some (listObj vs n)) (r : RdAll hid s.heap vs.toList xs) (hz : xs.length < lim) {Q : Value → Shared → Prop} (h : Then ca hid fr s (.own (.list xs)) Q) :
    wpAny (model prog w) A (call (.type "list") [.ref a]) Q E s := by
  have l := r.length
  rw [Array.length_toList] at l
  rw [lim_eq] at hz
  refine call_list_seq a (.inl rfl) ho rfl rfl (fun h' c' k e => ?_) (by rw [sizeLine_eq, l]; omega)
  exact h _ _ (own_new k (size_none _) e r) (Ext.of_keeps k) ⟨rfl, rfl⟩
theorem tuple_call {a : Addr} {vs : Array Value} {n : Nat} {xs : List PyData} (D : Dom hid s.heap) (ho : s.heap.get? a = some (listObj vs n)) (r : RdAll hid s.heap vs.toList xs) (hz : xs.length < lim) {Q : Value → Shared → Prop} (h : Then ca hid fr s (.d (.tuple xs)) Q) :
    wpAny (model prog w) A (call (.type "tuple") [.ref a]) Q E s := by
  have l := r.length
  rw [Array.length_toList] at l
  rw [lim_eq] at hz
  refine call_tuple_list ⟨_, ho, rfl, n, rfl⟩ (fun h' k => ?_) (by rw [sizeLine_eq, l]; omega)
  have e : Ext fr s.heap h' := Ext.of_keeps k
  refine h _ _ (tup_push (D.ext e) 0 (r.move fun b o hb q => ⟨hb, k b o q⟩)) (e.trans (ext_push _ _ _)) ⟨rfl, rfl⟩
theorem sorted_call {a : Addr} {vs : Array Value} {n : Nat} {is : List Int} (ho : s.heap.get? a = some (listObj vs n)) (I : IntsAre vs.toList is) (hz : is.length < 64) {Q : Value → Shared → Prop} (h : Then ca hid fr s (.own (.list (ofInts (sortI is)))) Q) :
    wpAny (model prog w) A (call (.builtin "sorted") [.ref a]) Q E s := by
  have l := I.length
  refine sorted_ints (l := a) (vs := vs.toList) ⟨_, ho, rfl, n, rfl⟩ I (by omega) fun out ns' q p o => ?_
  obtain ⟨e, he⟩ := sortedAll_at s.heap vs.toList out
  have k : ∀ b o, s.heap.get? b = some o → (sortedAll s.heap vs.toList out).get? b = some o := fun _ _ => sortedAll_old
  rw [← sortI_eq p o] at h
  refine h _ _ (own_new (vs := out) (n := e) k ?_ he (ints_back q)) (Ext.of_keeps k) ⟨rfl, rfl⟩
  cases z : s.heap.get? (s.heap.objs.size + 1) with
  | none => rfl
  | some o => exact absurd (Heap.lt_size z) (Nat.not_lt.mpr (Nat.le_succ _))
theorem sortedR_call {a : Addr} {vs : Array Value} {n : Nat} {is : List Int} (ho : s.heap.get? a = some (listObj vs n)) (I : IntsAre vs.toList is) (hz : is.length < 64) {Q : Value → Shared → Prop} (h : Then ca hid fr s (.own (.list (ofInts (sortI is).reverse))) Q) :
    wpAny (model prog w) A (call (.builtin "sorted") [.ref a] [(Str.ofString "reverse", .bool true)]) Q E s := by
  have l := I.length
  refine sorted_ints_rev (l := a) (vs := vs.toList) ⟨_, ho, rfl, n, rfl⟩ I (by omega) fun out ns' q p o => ?_
  obtain ⟨e, he⟩ := sortedAll_at s.heap vs.toList out
  have k : ∀ b o, s.heap.get? b = some o → (sortedAll s.heap vs.toList out).get? b = some o := fun _ _ => sortedAll_old
  rw [← sortI_rev_eq p o] at h
  refine h _ _ (own_new (vs := out) (n := e) k ?_ he (ints_back q)) (Ext.of_keeps k) ⟨rfl, rfl⟩
  cases z : s.heap.get? (s.heap.objs.size + 1) with
  | none => rfl
  | some o => exact absurd (Heap.lt_size z) (Nat.not_lt.mpr (Nat.le_succ _))
theorem max2_call {a b : Int} {t t' : Tok} (hh : A.handled = none) {Q : Value → Shared → Prop} (h : Then ca hid fr s (.d (.int (max a b))) Q) : wpAny (model prog w) A (call (.builtin "max") [.int a t, .int b t']) Q E s :=
  max_two_ints hh fun h' tk k => by
    by_cases c : b > a
    · rw [if_pos c]; rw [Int.max_eq_right (by omega)] at h; exact h.keeps_int _ k tk
    · rw [if_neg c]; rw [Int.max_eq_left (by omega)] at h; exact h.keeps_int _ k tk
theorem min2_call {a b : Int} {t t' : Tok} (hh : A.handled = none) {Q : Value → Shared → Prop} (h : Then ca hid fr s (.d (.int (min a b))) Q) : wpAny (model prog w) A (call (.builtin "min") [.int a t, .int b t']) Q E s :=
  min_two_ints hh fun h' tk k => by
    by_cases c : b < a
    · rw [if_pos c]; rw [Int.min_eq_right (by omega)] at h; exact h.keeps_int _ k tk
    · rw [if_neg c]; rw [Int.min_eq_left (by omega)] at h; exact h.keeps_int _ k tk
end

end TC

namespace TC
open PySem PySem.W PyProof.Rows

/-! Parts of expressions: items, cuts, displays, asks for a type. -/
section
variable {prog : Program} {w : World} {A : Around} {E : Value → Shared → Prop} {s : Shared} {ca : List Addr} {h₁ h₂ : Heap} {hid fr : List Addr} {v1 v2 : Value} {u1 u2 u : V} {hm : Bool}

theorem isi_call {x : PyData} {T : String} {ty : Ty} (hT : (T = "int" ∧ ty = .int) ∨ (T = "bool" ∧ ty = .bool) ∨ (T = "list" ∧ ty = .list) ∨ (T = "tuple" ∧ ty = .tuple)) (r : Rd fr s.heap v1 x) {Q : Value → Shared → Prop} (h : Then ca hid fr s (.d (.bool (ty.has x))) Q) :
    wpAny (model prog w) A (call (.builtin "isinstance") [v1, .type T]) Q E s := by
  cases x with
  | none => obtain rfl := r.non_inv; rcases hT with ⟨rfl, rfl⟩ | ⟨rfl, rfl⟩ | ⟨rfl, rfl⟩ | ⟨rfl, rfl⟩
            · exact PySem.IsiPair.NoneType_int (h.bool _)
            · exact PySem.IsiPair.NoneType_bool (h.bool _)
            · exact PySem.IsiPair.NoneType_list (h.bool _)
            · exact PySem.IsiPair.NoneType_tuple (h.bool _)
  | bool b => obtain rfl := r.bool_inv; rcases hT with ⟨rfl, rfl⟩ | ⟨rfl, rfl⟩ | ⟨rfl, rfl⟩ | ⟨rfl, rfl⟩
              · exact PySem.IsiPair.bool_int h.bool'
              · exact PySem.IsiPair.bool_bool h.bool'
              · exact PySem.IsiPair.bool_list (h.bool _)
              · exact PySem.IsiPair.bool_tuple (h.bool _)
  | int b => obtain ⟨t, rfl⟩ := r.int_inv; rcases hT with ⟨rfl, rfl⟩ | ⟨rfl, rfl⟩ | ⟨rfl, rfl⟩ | ⟨rfl, rfl⟩
             · exact PySem.IsiPair.int_int h.bool'
             · exact PySem.IsiPair.int_bool (h.bool _)
             · exact PySem.IsiPair.int_list (h.bool _)
             · exact PySem.IsiPair.int_tuple (h.bool _)
  | str b => obtain ⟨t, rfl⟩ := r.str_inv; rcases hT with ⟨rfl, rfl⟩ | ⟨rfl, rfl⟩ | ⟨rfl, rfl⟩ | ⟨rfl, rfl⟩
             · exact PySem.IsiPair.str_int (h.bool _)
             · exact PySem.IsiPair.str_bool (h.bool _)
             · exact PySem.IsiPair.str_list (h.bool _)
             · exact PySem.IsiPair.str_tuple (h.bool _)
  | list b => obtain ⟨a, vs, n, rfl, _, ho, _⟩ := r.list_inv
              have hl : s.heap.IsList a vs := ⟨_, ho, rfl, n, rfl⟩
              rcases hT with ⟨rfl, rfl⟩ | ⟨rfl, rfl⟩ | ⟨rfl, rfl⟩ | ⟨rfl, rfl⟩
              · exact PySem.IsiPair.isList_int hl (fun _ _ e => e) (h.bool _)
              · exact PySem.IsiPair.isList_bool hl (fun _ _ e => e) (h.bool _)
              · exact PySem.IsiPair.isList_list hl (fun _ _ e => e) h.bool'
              · exact PySem.IsiPair.isList_tuple hl (fun _ _ e => e) (h.bool _)
  | tuple b => obtain ⟨a, vs, n, rfl, _, ho, _⟩ := r.tuple_inv
               have hl : s.heap.IsTuple a vs := ⟨_, ho, rfl, n, rfl⟩
               rcases hT with ⟨rfl, rfl⟩ | ⟨rfl, rfl⟩ | ⟨rfl, rfl⟩ | ⟨rfl, rfl⟩
               · exact PySem.IsiPair.isTuple_int hl (fun _ _ e => e) (h.bool _)
               · exact PySem.IsiPair.isTuple_bool hl (fun _ _ e => e) (h.bool _)
               · exact PySem.IsiPair.isTuple_list hl (fun _ _ e => e) (h.bool _)
               · exact PySem.IsiPair.isTuple_tuple hl (fun _ _ e => e) h.bool'
  | dict b => obtain ⟨a, vs, n, rfl, _, ho⟩ := r.dict_inv
              rcases hT with ⟨rfl, rfl⟩ | ⟨rfl, rfl⟩ | ⟨rfl, rfl⟩ | ⟨rfl, rfl⟩
              · exact PySem.IsiPair.dict_int ho rfl (h.bool _)
              · exact PySem.IsiPair.dict_bool ho rfl (h.bool _)
              · exact PySem.IsiPair.dict_list ho rfl (h.bool _)
              · exact PySem.IsiPair.dict_tuple ho rfl (h.bool _)

theorem rd_none {x : PyData} (r : Rd fr s.heap v1 x) : (x = .none ∧ v1 = .none) ∨ (x ≠ .none ∧ v1 ≠ .none) := by
  cases r with
  | non => exact .inl ⟨rfl, rfl⟩
  | _ => exact .inr ⟨fun e => (by cases e), fun e => (by cases e)⟩
theorem seqIndex_pos {k : Int} {n : Nat} (h0 : 0 ≤ k) (h1 : k < n) : seqIndex? k n = some k.toNat := by
  simp [seqIndex?, show ¬ k < 0 by omega, h0, h1]
theorem seqIndex_neg {k : Int} {n : Nat} (h0 : k < 0) (h1 : -(n : Int) ≤ k) : seqIndex? k n = some (k + n).toNat := by
  simp [seqIndex?, h0, show 0 ≤ k + n by omega, show k + (n : Int) < n by omega]

theorem seqIndex_of {xs : List PyData} {k : Int} {y : PyData} (ei : idxD xs k = some y) : ∃ j, seqIndex? k xs.length = some j ∧ xs[j]? = some y ∧ -(2 ^ 63) ≤ k ∧ k < 2 ^ 63 ∧ (0 ≤ k → j = k.toNat) ∧ (k < 0 → j = (k + xs.length).toNat ∧ -(xs.length : Int) ≤ k) := by
  unfold idxD at ei
  simp only [lim_eq] at ei
  split at ei
  · rename_i c
    have := (List.getElem?_eq_some_iff.mp ei).1
    exact ⟨k.toNat, seqIndex_pos c.1 (by omega), ei, by omega, by omega, fun _ => rfl, fun q => by omega⟩
  · split at ei
    · rename_i c1 c
      exact ⟨(k + xs.length).toNat, seqIndex_neg c.1 c.2.1, by rw [Int.add_comm]; exact ei, by omega, by omega, fun q => by omega, fun q => ⟨rfl, by omega⟩⟩
    · cases ei

theorem item_seq {x y : PyData} {xs : List PyData} {k : Int} {t : Tok} {value slice : Expr} (r : Rd fr s.heap v1 x) (e : seqOf x = some xs) (ei : idxD xs k = some y) {Q : Value → Shared → Prop}
    (h : ∀ v, Rd fr s.heap v y → Q v s) (hs : subscripted slice false v1 (.int k t) = operate [v1, .int k t] (getItem v1 (.int k t))) : wpAny (model prog w) A (subscriptTail value slice v1 (.int k t)) Q E s := by
  obtain ⟨j, hj, hy, lo, hi, n1, n2⟩ := seqIndex_of ei
  cases x with
  | list ys =>
    cases e
    obtain ⟨a, vs, n, rfl, _, ho, q⟩ := r.list_inv
    obtain ⟨v, hv, rv⟩ := q.get hy
    have hl : s.heap.IsList a vs := ⟨_, ho, rfl, n, rfl⟩
    have ls := q.length
    rw [Array.length_toList] at ls
    refine tail_any hl.typeIs slot_list_getitem.lookup ?_ hs
    by_cases c : 0 ≤ k
    · exact wpAny_getItem_list hl c hi (by rw [← n1 c, ← Array.getElem?_toList]; exact hv) (h v rv)
    · have c' : k < 0 := by omega
      exact wpAny_getItem_list_neg hl c' (by rw [ls]; exact (n2 c').2) lo (by rw [ls, ← (n2 c').1, ← Array.getElem?_toList]; exact hv) (h v rv)
  | tuple ys =>
    cases e
    obtain ⟨a, vs, n, rfl, _, ho, q⟩ := r.tuple_inv
    obtain ⟨v, hv, rv⟩ := q.get hy
    have hl : IsTup s.heap a vs := ⟨_, ho, rfl, n, rfl⟩
    have ls := q.length
    rw [Array.length_toList] at ls
    refine tail_any hl.typeIs slot_tuple_getitem.lookup ?_ hs
    exact PyProof.Rows.getItem_tuple hl lo hi (by rw [ls]; exact hj) (by rw [← Array.getElem?_toList]; exact hv) (h v rv)
  | _ => cases e

theorem PartsR.get : ∀ {vs : List Value} {l : List (Bool × PyData)} {as : List Addr} {h : Heap} {hid : List Addr}, PartsR h₁ hid h vs l as → ∀ {k : Nat} {p : Bool × PyData}, l[k]? = some p →
    ∃ v, vs[k]? = some v ∧ ((p.1 = false ∧ Rd hid h v p.2) ∨ (p.1 = true ∧ ∃ a ∈ as, v = .ref a ∧ h₁.get? a = none ∧ OwnAt hid h a p.2))
  | [], [], [], _, _, _, k, p, e => by cases e
  | v :: _, (false, x) :: l, as, _, _, ⟨a, b⟩, k, p, e => by
    cases k with
    | zero => cases e; exact ⟨v, rfl, .inl ⟨rfl, a⟩⟩
    | succ k => exact PartsR.get b (k := k) (by simpa using e)
  | v :: _, (true, x) :: l, c :: as, _, _, ⟨a, b, d, q⟩, k, p, e => by
    cases k with
    | zero => cases e; exact ⟨v, rfl, .inr ⟨rfl, c, .head _, a, b, d⟩⟩
    | succ k =>
      obtain ⟨v', e1, e2⟩ := PartsR.get q (k := k) (by simpa using e)
      refine ⟨v', e1, e2.imp_right fun ⟨p1, a', m, r⟩ => ⟨p1, a', .tail _ m, r⟩⟩
  | [], [], _ :: _, _, _, x, _, _, _ => nomatch x
  | [], _ :: _, _, _, _, x, _, _, _ => nomatch x
  | _ :: _, [], _, _, _, x, _, _, _ => nomatch x
  | _ :: _, (true, _) :: _, [], _, _, x, _, _, _ => nomatch x
theorem PartsR.length : ∀ {vs : List Value} {l : List (Bool × PyData)} {as : List Addr} {h : Heap} {hid : List Addr}, PartsR h₁ hid h vs l as → vs.length = l.length
  | [], [], [], _, _, _ => rfl
  | v :: _, (false, x) :: l, as, _, _, ⟨a, b⟩ => by simp [PartsR.length b]
  | v :: _, (true, x) :: l, c :: as, _, _, ⟨a, b, d, q⟩ => by simp [PartsR.length q]
  | [], [], _ :: _, _, _, x => nomatch x
  | [], _ :: _, _, _, _, x => nomatch x
  | _ :: _, [], _, _, _, x => nomatch x
  | _ :: _, (true, _) :: _, [], _, _, x => nomatch x

theorem low_TR {h : Heap} {v : Value} {y : PyData} (D : Dom hid h) (r : Rd fr h v y) : TR ca h₁ hid fr h v (low y) := by
  unfold low
  split
  · rename_i f; exact flat_move D.notup r f
  · exact r

theorem idx_ok {k : Int} {t : Tok} {value slice : Expr} (ev : idxV u1 k = some u) (sub : ∀ b ∈ fr, b ∈ hid) (D1 : Dom hid h₁) (D : Dom hid s.heap) (r1 : TR ca h₁ hid fr s.heap v1 u1) {Q : Value → Shared → Prop}
    (h : ∀ v, TR ca h₁ hid fr s.heap v u → Q v s) (hs : subscripted slice false v1 (.int k t) = operate [v1, .int k t] (getItem v1 (.int k t))) : wpAny (model prog w) A (subscriptTail value slice v1 (.int k t)) Q E s := by
  cases u1 with
  | d x =>
    obtain ⟨y, e, rfl⟩ := Option.map_eq_some_iff.mp ev
    obtain ⟨xs, e1, e2⟩ := Option.bind_eq_some_iff.mp e
    exact item_seq (fr := hid) r1 e1 e2 (fun v r => h v r) hs
  | own x =>
    obtain ⟨y, e, rfl⟩ := Option.map_eq_some_iff.mp ev
    obtain ⟨xs, e1, e2⟩ := Option.bind_eq_some_iff.mp e
    exact item_seq (fr := hid) (r1.keep D1 D rfl) e1 e2 (fun v r => h v r) hs
  | brw x =>
    obtain ⟨y, e, rfl⟩ := Option.map_eq_some_iff.mp ev
    obtain ⟨xs, e1, e2⟩ := Option.bind_eq_some_iff.mp e
    exact item_seq r1 e1 e2 (fun v r => h v (low_TR D r)) hs
  | ot l =>
    replace ev : (if 0 ≤ k ∧ k < lim then (l[k.toNat]?).map fun p => if p.1 then V.own p.2 else V.d p.2 else none) = some u := ev
    split at ev
    · rename_i c
      obtain ⟨p, e, rfl⟩ := Option.map_eq_some_iff.mp ev
      obtain ⟨a, vs, n, as, rfl, ho, nd, q⟩ := r1
      obtain ⟨v, hv, rv⟩ := q.get e
      have lt := (List.getElem?_eq_some_iff.mp e).1
      have hl : IsTup s.heap a vs := ⟨_, ho, rfl, n, rfl⟩
      have ls := q.length
      rw [Array.length_toList] at ls
      rw [lim_eq] at c
      refine tail_any hl.typeIs slot_tuple_getitem.lookup ?_ hs
      refine PyProof.Rows.getItem_tuple hl (by omega) (by omega) (j := k.toNat) (seqIndex_pos c.1 (by omega)) (by rw [← Array.getElem?_toList]; exact hv) (h v ?_)
      · rcases rv with ⟨p1, rv⟩ | ⟨p1, a', m, e1, e2, rv⟩
        · rw [p1]; exact rv.anti fun b hb => List.mem_append_right _ hb
        · rw [p1]; exact ⟨a', e1, e2, rv.anti fun b hb => List.mem_append_right _ hb⟩
    · cases ev
  | exc c => cases ev

/-- a cut: the slice object, then the new list -/
theorem cut_ok {l : Addr} {vs : Array Value} {n : Nat} {xs ys : List PyData} {vl vu : Value} {lo hi : Option Int} {value slice : Expr} (ho : s.heap.get? l = some (listObj vs n)) (r : RdAll hid s.heap vs.toList xs) (hz : xs.length < lim)
    (pl : IsPart vl lo) (pu : IsPart vu hi) (hp : RdAll hid s.heap (slicePick vs lo hi none).toList ys) {Q : Value → Shared → Prop} (h : Then ca hid fr s (.own (.list ys)) Q)
    (hs : subscripted slice false (.ref l) (.ref s.heap.objs.size) = operate [.ref s.heap.objs.size, .ref l] (getItem (.ref l) (.ref s.heap.objs.size))) :
    wpAny (model prog w) A (subscriptTail value slice (.ref l) (.ref s.heap.objs.size)) Q E { s with heap := s.heap.push { cls := .type "slice", data := .fields #[vl, vu, .none] } } := by
  have hl : s.heap.IsList l vs := ⟨_, ho, rfl, n, rfl⟩
  have ls := r.length
  rw [Array.length_toList] at ls
  rw [lim_eq] at hz
  refine tail_any (Heap.IsList.typeIs (s := { s with heap := s.heap.push { cls := .type "slice", data := .fields #[vl, vu, .none] } }) (hl.push _)) list_getitem_lookup
    (wpAny_getItem_list_slice (hl.push _) (Heap.IsSliceOf.new ..) pl pu .none (by simp) ?_ (by rw [sizeLine_eq, ls]; omega)) hs
  refine h _ _ ?_ (Ext.of_keeps fun b o e => Heap.get?_push_of_some _ (Heap.get?_push_of_some _ e)) ⟨rfl, rfl⟩
  have k : ∀ b o, s.heap.get? b = some o → (s.heap.push { cls := .type "slice", data := .fields #[vl, vu, .none] }).get? b = some o := fun b o e => Heap.get?_push_of_some _ e
  exact TR.back (own_push (ca := ca) (fr := fr) 0 (hp.move fun b o hb e => ⟨hb, k b o e⟩)) (Ext.of_keeps k)
theorem RdAll.drop {hid : List Addr} {h : Heap} : ∀ {vs : List Value} {xs : List PyData}, RdAll hid h vs xs → ∀ k, RdAll hid h (vs.drop k) (xs.drop k)
  | _, _, r, 0 => r
  | [], xs, r, k + 1 => by cases r; exact .nil _ _
  | v :: vs, xs, r, k + 1 => by obtain ⟨y, ys, rfl, a, b⟩ := r.split; exact b.drop k
theorem RdAll.take {hid : List Addr} {h : Heap} : ∀ {vs : List Value} {xs : List PyData}, RdAll hid h vs xs → ∀ k, RdAll hid h (vs.take k) (xs.take k)
  | _, _, r, 0 => by simpa using RdAll.nil _ _
  | [], xs, r, k + 1 => by cases r; exact .nil _ _
  | v :: vs, xs, r, k + 1 => by obtain ⟨y, ys, rfl, a, b⟩ := r.split; exact .cons a (b.take k)
theorem pick_from {vs : Array Value} {xs : List PyData} (r : RdAll hid s.heap vs.toList xs) {k : Int} (h : 0 ≤ k) : RdAll hid s.heap (slicePick vs (some k) none none).toList (xs.drop k.toNat) := by
  obtain ⟨j, rfl⟩ := Int.eq_ofNat_of_zero_le h
  show RdAll hid s.heap (slicePick vs (some (j : Int)) none none).toList _
  rw [slicePick_from']
  simpa using r.drop j
theorem pick_upto {vs : Array Value} {xs : List PyData} (r : RdAll hid s.heap vs.toList xs) {k : Int} (h : 0 ≤ k) : RdAll hid s.heap (slicePick vs none (some k) none).toList (xs.take k.toNat) := by
  obtain ⟨j, rfl⟩ := Int.eq_ofNat_of_zero_le h
  show RdAll hid s.heap (slicePick vs none (some (j : Int)) none).toList _
  rw [slicePick_upto']
  simpa using r.take j

theorem newList_ok {vs : List Value} {xs : List PyData} (r : RdAll hid s.heap vs xs) (hz : xs.length < lim) {Q : Value → Shared → Prop} (h : Then ca hid fr s (.own (.list xs)) Q) : wpAny (model prog w) A (newList vs) Q E s := by
  have ls := r.length
  rw [lim_eq] at hz
  refine wpAny_newObj_type (h _ _ (own_push 0 ?_) (ext_push _ _ _) ⟨rfl, rfl⟩) (by show vs.toArray.size ≤ sizeLine; rw [List.size_toArray, sizeLine_eq]; omega)
  exact r
theorem newTuple_ok {vs : List Value} {xs : List PyData} (D : Dom hid s.heap) (r : RdAll hid s.heap vs xs) (hz : xs.length < lim) {Q : Value → Shared → Prop} (h : Then ca hid fr s (.d (.tuple xs)) Q) : wpAny (model prog w) A (newTuple vs) Q E s := by
  have ls := r.length
  rw [lim_eq] at hz
  refine wpAny_newObj_type (h _ _ (tup_push D 0 ?_) (ext_push _ _ _) ⟨rfl, rfl⟩) (by show vs.toArray.size ≤ sizeLine; rw [List.size_toArray, sizeLine_eq]; omega)
  exact r
end

end TC

namespace TC
open PySem PySem.W PyProof.Rows

/-! Exceptions on their way. -/
section
variable {G : Gl} {A : Around} {E : Value → Shared → Prop} {s : Shared} {hid fr : List Addr} {envs outer : List Env} {env : Env} {L e C : Addr} {h₀ : Heap} {fl : Value} {M : Model}

/-- records may have changed in their fields, frames in their slots -/
noncomputable def Nt (fr : List Addr) (h h' : Heap) : Prop := ∀ b o, h.get? b = some o → ((∀ vs, o.data ≠ .fields vs) → (b ∉ fr → h'.get? b = some o) ∧ ∃ sl, h'.get? b = some { o with slots := sl }) ∧
  ∀ vs, o.data = .fields vs → ∃ o' vs', h'.get? b = some o' ∧ o'.cls = o.cls ∧ o'.dict = o.dict ∧ o'.data = .fields vs' ∧ vs'[2]? = vs[2]?
theorem Nt.refl (fr : List Addr) (h : Heap) : Nt fr h h := fun b o e => ⟨fun _ => ⟨fun _ => e, o.slots, e⟩, fun vs d => ⟨o, vs, e, rfl, rfl, d, rfl⟩⟩
theorem Nt.trans {fr : List Addr} {h₁ h₂ h₃ : Heap} (x : Nt fr h₁ h₂) (y : Nt fr h₂ h₃) : Nt fr h₁ h₃ := fun b o e => by
  refine ⟨fun nf => ?_, fun vs d => ?_⟩
  · obtain ⟨x1, sl, x2⟩ := (x b o e).1 nf
    obtain ⟨y1, sl', y2⟩ := (y b _ x2).1 nf
    exact ⟨fun hb => ((y b o (x1 hb)).1 nf).1 hb, sl', y2⟩
  · obtain ⟨o1, vs1, e1, c1, d1, f1, g1⟩ := (x b o e).2 vs d
    obtain ⟨o2, vs2, e2, c2, d2, f2, g2⟩ := (y b o1 e1).2 vs1 f1
    exact ⟨o2, vs2, e2, c2.trans c1, d2.trans d1, f2, g2.trans g1⟩
theorem Nt.ext {fr : List Addr} {h h' : Heap} (x : Ext fr h h') : Nt fr h h' := fun b o e => ⟨fun _ => ⟨(x b o e).1, (x b o e).2⟩, fun vs d => let ⟨sl, q⟩ := (x b o e).2; ⟨_, vs, q, rfl, rfl, d, rfl⟩⟩
theorem Nt.field {fr : List Addr} {h : Heap} {e : Addr} {oe : Obj} {vs : Array Value} {k : Nat} {w : Value} (he : h.get? e = some oe) (hd : oe.data = .fields vs) (hk : k ≠ 2) : Nt fr h (h.update e (Obj.mapFields (·.setIfInBounds k w))) := fun b o q => by
  by_cases z : b = e
  · subst z
    rw [he] at q; cases q
    refine ⟨fun nf => absurd hd (nf vs), fun vs' d => ?_⟩
    rw [hd] at d; cases d
    have hd₃ := Obj.data_mapFields hd (·.setIfInBounds k w)
    refine ⟨_, _, Heap.get?_update_self _ he (Obj.isFreed_of_fields hd₃), Obj.cls_mapFields _ _, ?_, hd₃, by rw [Array.getElem?_setIfInBounds_ne hk]⟩
    unfold Obj.mapFields; split <;> rfl
  · have e1 := (Heap.get?_update_other h (Obj.mapFields (·.setIfInBounds k w)) (Ne.symm z)).trans q
    exact ⟨fun _ => ⟨fun _ => e1, o.slots, e1⟩, fun vs d => ⟨o, vs, e1, rfl, rfl, d, rfl⟩⟩

theorem Stk.slots {h h' : Heap} (S : Stk G A h fr envs) (k : Heap.SlotsOnly (envs.filterMap (·.frame)) h h') : Ext fr h h' := fun b o q => by
  refine ⟨fun hb => (k.2.1 b (by rw [← S.fr]; exact hb)).trans q, ?_⟩
  obtain ⟨sl, z⟩ := k.2.2 b o q
  exact ⟨sl, z⟩
theorem Stk.notFields {h : Heap} (S : Stk G A h fr envs) {b : Addr} {o : Obj} {vs : Array Value} (q : h.get? b = some o) (d : o.data = .fields vs) : b ∉ fr := fun hb => by
  rw [S.fr] at hb
  obtain ⟨_, o', ho, hnf⟩ := S.funs.mem hb
  rw [q] at ho; cases ho; exact hnf vs d

theorem entry_ok {oe : Obj} {vs : Array Value} {head : Value} {hadNext : Bool} {Q : Unit → Shared → Prop} (S : Stk G A s.heap fr (env :: outer)) (hf : env.frame = some L) (x : Ext fr h₀ s.heap) (n : h₀.get? e = none)
    (he : s.heap.get? e = some oe) (hc : oe.cls = .ref C) (hdi : oe.dict = none) (hd : oe.data = .fields vs) (hsz : 1 < vs.size) (h2 : vs[2]? = some .none) (h : ∀ h', Ext fr h₀ h' → Fly h₀ e C (rawInt L) h' → Nt fr s.heap h' → Q () { s with heap := h' }) :
    wpAny M A (do let a ← frameOf env; let pl ← entryPlaceOf L hadNext; let b ← EntryCells.newEntry head a .none (rawInt L) .none pl; setField (.ref e) 1 b) Q E s := by
  refine wpAny_bind (wpAny_frameOf_fun S.frames S.funs hf fun h₁ hs₁ => ?_)
  have X1 := S.slots hs₁
  refine wpAny_bind (wpAny_entryPlaceOf fun pl hpl => ?_)
  unfold EntryCells.newEntry newFields
  refine wpAny_bind (wpAny_newObj_type ?_ (hpl.sizeOk5 _ _ _ _ _))
  have he₁ : h₁.get? e = some oe := (X1 e oe he).1 (S.notFields he hd)
  have he₂ := Heap.get?_push_of_some (h := h₁) { cls := .type "traceback", dict := none, data := .fields ([head, .ref L, .none, rawInt L, .none] ++ (if pl.isEmpty then List.replicate 6 Value.none else pl)).toArray } he₁
  refine wpAny_setField he₂ hd hsz (h _ ?_ ?_ (((Nt.ext X1).trans (Nt.ext (ext_push fr _ _))).trans (Nt.field he₂ hd (by decide))))
  · intro b o q
    have hbe : b ≠ e := fun z => by rw [z, n] at q; cases q
    have go : ∀ o', h₁.get? b = some o' → ((h₁.push { cls := .type "traceback", dict := none, data := .fields ([head, .ref L, .none, rawInt L, .none] ++ (if pl.isEmpty then List.replicate 6 Value.none else pl)).toArray }).update e (Obj.mapFields (·.setIfInBounds 1 (Value.ref h₁.objs.size)))).get? b = some o' := fun o' z => by
      rw [Heap.get?_update_other _ _ (Ne.symm hbe)]
      exact Heap.get?_push_of_some _ z
    obtain ⟨y1, sl, y2⟩ := (x.trans X1) b o q
    exact ⟨fun hb => go _ (y1 hb), sl, go _ y2⟩
  · have hTe : h₁.objs.size ≠ e := Nat.ne_of_gt (Heap.lt_size he₁)
    have hd₃ := Obj.data_mapFields hd (·.setIfInBounds 1 (Value.ref h₁.objs.size))
    have he₃ := Heap.get?_update_self (Obj.mapFields (·.setIfInBounds 1 (Value.ref h₁.objs.size))) he₂ (Obj.isFreed_of_fields hd₃)
    have hT₃ := (Heap.get?_update_other (h₁.push { cls := .type "traceback", dict := none, data := .fields ([head, .ref L, .none, rawInt L, .none] ++ (if pl.isEmpty then List.replicate 6 Value.none else pl)).toArray })
      (Obj.mapFields (·.setIfInBounds 1 (Value.ref h₁.objs.size))) (Ne.symm hTe)).trans (Heap.get?_push_size h₁ rfl)
    refine ⟨n, _, _, he₃, (Obj.cls_mapFields _ _).trans hc, ?_, hd₃, by rw [Array.getElem?_setIfInBounds_ne (by decide)]; exact h2, .inr ⟨h₁.objs.size, _, _, by simp [hsz], (x.trans X1).gone (size_none h₁), hTe, hT₃, rfl, by first | (simp; done) | (rcases hpl with rfl | ⟨_, _, _, _, _, _, _, rfl⟩ <;> simp)⟩⟩
    · unfold Obj.mapFields; split <;> exact hdi

theorem note_ok {Q : Unit → Shared → Prop} (S : Stk G A s.heap fr (env :: outer)) (kb : G.B.StaysIn h₀) (hf : env.frame = some L) (x : Ext fr h₀ s.heap) (F : Fly h₀ e C .none s.heap) (h : ∀ h', Ext fr h₀ h' → Fly h₀ e C (rawInt L) h' → Nt fr s.heap h' → Q () { s with heap := h' }) :
    wpAny M A (noteFrame (.ref e) env) Q E s := by
  obtain ⟨n, oe, vs, he, hc, hdi, hd, h2, F⟩ := F
  have hsz : 1 < vs.size := Nat.lt_of_succ_lt (Array.getElem?_eq_some_iff.mp h2).1
  unfold noteFrame
  simp only [hf]
  rcases F with ⟨_, h1⟩ | ⟨T, oT, ts, h1, hnT, hTe, hT, hdT, h3⟩
  · refine wpAny_bind (wpAny_field he hd h1 ?_)
    rw [if_neg (by decide)]
    exact entry_ok S hf x n he hc hdi hd hsz h2 h
  · refine wpAny_bind (wpAny_field he hd h1 ?_)
    rw [if_pos (show (Value.ref T != Value.none) = true from by simp)]
    refine wpAny_bind (wpAny_field hT hdT h3 ?_)
    rw [if_neg (show ¬ ((Value.none == rawInt L) = true) from by simp [rawInt])]
    refine wpAny_bind (wpAny_setField hT hdT (Array.getElem?_eq_some_iff.mp h3).1 ?_)
    have other : ∀ b, b ≠ T → (s.heap.update T (Obj.mapFields (·.setIfInBounds 3 Value.none))).get? b = s.heap.get? b := fun b hb => Heap.get?_update_other _ _ (Ne.symm hb)
    have X : Ext fr h₀ (s.heap.update T (Obj.mapFields (·.setIfInBounds 3 Value.none))) := fun b o q => by
      have hb : b ≠ T := fun z => by rw [z, hnT] at q; cases q
      rw [other b hb]
      exact x b o q
    have S' : Stk G A (s.heap.update T (Obj.mapFields (·.setIfInBounds 3 Value.none))) fr (env :: outer) := by
      refine ⟨S.frames, S.fr, S.funs.of_keeps fun b o q hnf => ⟨o, (other b fun z => ?_).trans q, rfl⟩, fun b o q => ?_⟩
      · rw [z, hT] at q; cases q; exact hnf ts hdT
      · refine (other b fun z => ?_).trans (S.base b o q)
        have := kb b o q
        rw [z, hnT] at this; cases this
    exact entry_ok (s := { s with heap := s.heap.update T (Obj.mapFields (·.setIfInBounds 3 Value.none)) }) S' hf X n ((other e (Ne.symm hTe)).trans he) hc hdi hd hsz h2 fun h' x1 x2 x3 => h h' x1 x2 ((Nt.field hT hdT (by decide)).trans x3)

theorem note_again {Q : Unit → Shared → Prop} (hf : env.frame = some L) (F : Fly h₀ e C (rawInt L) s.heap) (h : Q () s) : wpAny M A (noteFrame (.ref e) env) Q E s := by
  obtain ⟨n, oe, vs, he, hc, hdi, hd, h2, ⟨q, _⟩ | ⟨T, oT, ts, h1, hnT, hTe, hT, hdT, h3⟩⟩ := F
  · cases q
  · exact wpAny_noteFrame_inFlight hf he hd h1 hT hdT h3 h
theorem flight_ok {Q : Unit → Shared → Prop} {fo : Option Addr} (x : Ext fr h₀ s.heap) (F : Fly h₀ e C fl s.heap) (hf : fl = .none → fo = none) (h : ∀ h', Ext fr h₀ h' → Fly h₀ e C (fo.elim .none fun f => rawInt f) h' → Nt fr s.heap h' → Q () { s with heap := h' }) : wpAny M A (setFlight (.ref e) fo) Q E s := by
  obtain ⟨n, oe, vs, he, hc, hdi, hd, h2, F⟩ := F
  rcases F with ⟨z, h1⟩ | ⟨T, oT, ts, h1, hnT, hTe, hT, hdT, h3⟩
  · have := hf z; subst this
    unfold setFlight
    refine wpAny_bind (wpAny_field he hd h1 ?_)
    rw [if_neg (by decide)]
    exact wpAny_pure (h s.heap x ⟨n, oe, vs, he, hc, hdi, hd, h2, .inl ⟨rfl, h1⟩⟩ (Nt.refl _ _))
  · have hsz : 3 < ts.size := (Array.getElem?_eq_some_iff.mp h3).1
    unfold setFlight
    refine wpAny_bind (wpAny_field he hd h1 ?_)
    rw [if_pos (show (Value.ref T != Value.none) = true from by simp)]
    refine wpAny_setField hT hdT hsz (h _ (fun b o q => ?_) ⟨n, oe, vs, (Heap.get?_update_other _ _ hTe).trans he, hc, hdi, hd, h2, .inr ⟨T, _, _, h1, hnT, hTe, Heap.get?_update_self _ hT (Obj.isFreed_of_fields (Obj.data_mapFields hdT _)), Obj.data_mapFields hdT _, by simp [hsz]⟩⟩ (Nt.field hT hdT (by decide)))
    have hb : b ≠ T := fun z => by rw [z, hnT] at q; cases q
    rw [Heap.get?_update_other _ _ (Ne.symm hb)]
    exact x b o q
theorem note_any {Q : Unit → Shared → Prop} (S : Stk G A s.heap fr (env :: outer)) (kb : G.B.StaysIn h₀) (hf : env.frame = some L) (x : Ext fr h₀ s.heap) (hl : fl = .none ∨ fl = rawInt L) (F : Fly h₀ e C fl s.heap) (h : ∀ h', Ext fr h₀ h' → Fly h₀ e C (rawInt L) h' → Nt fr s.heap h' → Q () { s with heap := h' }) :
    wpAny M A (noteFrame (.ref e) env) Q E s := by
  rcases hl with rfl | rfl
  · exact note_ok S kb hf x F h
  · exact note_again hf F (h s.heap x F (Nt.refl _ _))
/-- an exception that comes back out of a loop -/
theorem back_ok {Q : Unit → Shared → Prop} (hf : env.frame = some L) (x : Ext fr h₀ s.heap) (F : Fly h₀ e C (rawInt L) s.heap) (h : ∀ h', Ext fr h₀ h' → Fly h₀ e C (rawInt L) h' → Nt fr s.heap h' → Q () { s with heap := h' }) :
    wpAny M A (do
      if (← field (.ref e) 1) == .none then unsupported "frame.own-activation:exception-without-traceback"
      setFlight (.ref e) env.frame) Q E s := by
  have F' := F
  obtain ⟨n, oe, vs, he, hc, hdi, hd, h2, ⟨z, h1⟩ | ⟨T, oT, ts, h1, hnT, hTe, hT, hdT, h3⟩⟩ := F
  · cases z
  · refine wpAny_bind (wpAny_field he hd h1 ?_)
    rw [if_neg (by simp)]
    rw [hf]
    exact flight_ok x F' (fun q => by cases q) h
theorem leave_ok {Q : Unit → Shared → Prop} (S : Stk G A s.heap fr (env :: outer)) (kb : G.B.StaysIn h₀) (hf : env.frame = some L) (x : Ext fr h₀ s.heap) (hl : fl = .none ∨ fl = rawInt L) (F : Fly h₀ e C fl s.heap) (h : ∀ h', Ext fr h₀ h' → Fly h₀ e C .none h' → Q () { s with heap := h' }) :
    wpAny M A (leaving env (.ref e)) Q E s := by
  unfold leaving
  exact wpAny_bind (note_any S kb hf x hl F fun h' x' F' _ => flight_ok (fo := none) (s := { s with heap := h' }) x' F' (fun _ => rfl) fun h'' x'' F'' _ => h h'' x'' F'')

theorem made_fly {h h' : Heap} {args : List Value} (m : Heap.MadeExcOf h h' e (.ref C) args) : Fly h e C .none h' ∧ Ext fr h h' := by
  obtain ⟨k, n, t, h1, h2, h3⟩ := m
  exact ⟨⟨n, _, _, h1, rfl, rfl, rfl, rfl, .inl ⟨rfl, rfl⟩⟩, Ext.of_keeps k⟩

set_option maxRecDepth 100000 in
theorem exc_class {prog : Program} {w : World} {K : Frag} {x : Addr} {ox : Obj} {Q : Option Value → Shared → Prop} (X : K.In s.heap) (I : InstAt s.heap x ox C none) (hga : findIn K (.ref C) "__getattribute__" = some (some (.builtin "BaseException.__getattribute__"))) (hgt : findIn K (.ref C) "__getattr__" = some none)
    (hf : findObj K C none "__class__" = some (.bind (.builtin "getset_descriptor.__get__") (.builtin "object.__class__"))) (hmB : mroIn K C (.type "BaseException") = some true) (hm : mroIn K C (.type "object") = some true)
    (h : Q (some (.ref C)) { s with toks := s.toks + 1 }) : wpAny (model prog w) A (getAttr? (.ref x) "__class__") Q E s := by
  obtain ⟨hh, g, d, t, os⟩ := s
  have L0 := I.type (M := model prog w)
  have L1 := looks_findIn (M := model prog w) X hga
  have L2 := looks_findIn (M := model prog w) X hgt
  have L3 := looks_find (M := model prog w) X I hf
  have L4 := looks_mroIn (M := model prog w) X hmB
  unfold getAttr? getAttrBy? getAttrBy
  refine wpAny_bind (wpAny_mkText (wpAny_bind (wpAny_attempt (wpAny_holding (wpAny_bind (L0.at (wpAny_bind (L1.at ?_))))))))
  have hx2 : (Value.builtin "BaseException.__getattribute__" == Value.builtin "object.__getattribute__") = false := by decide +kernel
  have hx1 : (onTheHeap (Value.ref C) && Value.builtin "BaseException.__getattribute__" == Value.builtin "object.__getattribute__") = false := by rw [hx2]; rfl
  dsimp only
  rw [if_neg (by rw [hx1]; decide)]
  unfold getAttrByItsOwn hookBefore
  rw [if_pos (show onTheHeap (Value.ref C) = true from rfl)]
  refine wpAny_bind (L2.at (wpAny_bind (wpAny_attempt (wpAny_holding ?_))))
  unfold callGetattribute
  rw [if_neg (by decide)]
  unfold boundAndCalled
  rw [PySem.F.attr_ValueError.ga.bind (.ref x)]
  refine wpAny_bind (wpAny_pure (wpAny_call ?_))
  refine codeAny_call_builtin PySem.F.attr_ValueError.ga.plain PySem.F.entry_bexc_ga ?_
  have hk : builtinKind "BaseException.__getattribute__" = some .slot := by decide +kernel
  have hsplit : splitId "BaseException.__getattribute__" = some ("BaseException", "__getattribute__") := by decide +kernel
  have ha := PySem.F.args_bexc_ga (.ref x) (Value.str (Str.ofString "__class__") t)
  show wpAny _ _ (checkBuiltinCall _ ⟨[.ref x, Value.str (Str.ofString "__class__") t], []⟩) _ _ _
  simp only [checkBuiltinCall, hk, hsplit]
  unfold isInstance
  refine wpAny_bind (wpAny_bind (L0.at (L4.at ?_)))
  repeat (first | assumption | wp_step)
  refine wpAny_loadPart_at I.at_ ?_
  rw [I.cls]
  refine wpAny_pure (wpAny_bind (L3.at ?_))
  dsimp only
  repeat (first | assumption | wp_step)
  exact class_get (ox := ox) (od := none) X I hm (wpAny_pure (handed_on rfl (wpAny_pure h)))

/-- asked whether a caught exception is one of a class -/
theorem own_facts (O : G.Ok) {c : Nat} (hc : G.ca[c]? = some C) : (findIn G.K (.ref C) "__getattribute__" = some (some (.builtin "BaseException.__getattribute__")) ∧ findIn G.K (.ref C) "__getattr__" = some none ∧ mroIn G.K C (.type "BaseException") = some true) ∧ (clsIn G.K C).isSome = true ∧ findIn G.K (.ref C) "__class__" = some (some (.builtin "object.__class__")) ∧ specialIn G.K (.builtin "object.__class__") "__get__" = some (some (.builtin "getset_descriptor.__get__"))
    ∧ takesIn G.K (.builtin "object.__class__") = some true ∧ mroIn G.K C (.type "object") = some true ∧ mroIn G.K C (.type "ValueError") = some true ∧ typeIn G.K (.ref C) = some (.type "type") := by
  have q := O.cok c C hc
  unfold ownOk1 at q
  simp only [Bool.and_eq_true, beq_iff_eq] at q
  obtain ⟨⟨⟨⟨⟨⟨⟨⟨⟨q1, q1'⟩, q1''⟩, q2⟩, q3⟩, q4⟩, q5⟩, q6⟩, q7⟩, q8⟩ := q
  exact ⟨⟨q1, q1', q1''⟩, q2, q3, q4, q5, q6, q7, q8⟩
theorem cls_isType (O : G.Ok) {c : Nat} {h : Heap} (hc : G.ca[c]? = some C) (X : G.K.In h) : Looks M h (isType (.ref C)) true := by
  obtain ⟨cd, e⟩ := Option.isSome_iff_exists.mp (own_facts O hc).2.1
  unfold clsIn at e
  split at e
  · rename_i ho
    exact fun A' Q' E' s' k q => wpAny_bind (wpAny_loadPart (k _ _ (X _ _ ho)) (wpAny_pure q))
  · cases e
/-- isinstance of a caught exception -/
theorem isi_any (O : G.Ok) {c : Nat} {x : Addr} {o : Obj} {v : Value} {b : Bool} (hc : G.ca[c]? = some C) (X : G.K.In s.heap) (I : InstAt s.heap x o C none) (hb : (Value.ref C == v) = true → b = true) (hty : Looks (model G.prog G.w) s.heap (typeOf v) (.type "type")) (his : Looks (model G.prog G.w) s.heap (isType v) true)
    (hsub : Looks (model G.prog G.w) s.heap (isSubtype (.ref C) v) b) {Q : Value → Shared → Prop} (h : ∀ tk, Q (.bool b) { s with toks := tk }) : wpAny (model G.prog G.w) A (call (.builtin "isinstance") [.ref x, v]) Q E s := by
  obtain ⟨hg, hcl, ha, hn, htk, hm, _, _⟩ := own_facts O hc
  obtain ⟨cdD, hcD⟩ := Option.isSome_iff_exists.mp hcl
  have hf : findObj G.K C none "__class__" = some (.bind (.builtin "getset_descriptor.__get__") (.builtin "object.__class__")) := by
    unfold findObj; rw [hcD, ha]; simp only [Option.bind_some, hn, htk]
  have hit := cls_isType (M := model G.prog G.w) O hc X
  refine call_isinstance_of ?_ (by intro q; cases q)
  have LT := I.type (M := model G.prog G.w)
  have LI : Looks (model G.prog G.w) s.heap (isInstance (.ref x) v) b := LT.andThen hsub
  unfold Builtin.«isinstance.nested»
  refine wpAny_bind (LT.at ?_)
  by_cases q : (Value.ref C == v) = true
  · rw [if_pos q]
    have e := hb q
    subst e
    exact wpAny_bind (wpAny_rule (wpAny_pure (h s.toks)))
  · rw [if_neg q]
    refine wpAny_bind (hty.at ?_)
    rw [if_pos (by decide)]
    k_delta "plainIsInstance"
    refine wpAny_bind (wpAny_bind (his.at ?_))
    rw [if_neg (by decide)]
    refine wpAny_bind (LI.at ?_)
    cases b with
    | true => exact wpAny_pure (wpAny_pure (h s.toks))
    | false =>
      rw [if_neg (by decide)]
      refine wpAny_bind (exc_class X I hg.1 hg.2.1 hf hg.2.2 hm ?_)
      refine wpAny_bind (hit.at ?_)
      rw [if_neg (by decide)]
      exact wpAny_bind (wpAny_rule (hsub.at (wpAny_pure (h _))))
theorem type_ValueError : typeOf (.type "ValueError") = pure (.type "type") := by
  show (pure (Value.type ((Manifest.find? "ValueError").elim "type" fun x => x.metatype)) : Sem Value) = _
  rw [show ((Manifest.find? "ValueError").elim "type" fun x => x.metatype) = "type" from by kernel_rfl]
theorem exc_inst {ca : List Addr} {c : Nat} {h : Heap} {v : Value} (x : ExcAt ca c h v) : ∃ e C, v = .ref e ∧ ca[c]? = some C ∧ ∃ o, InstAt h e o C none := by
  obtain ⟨e, o, vs, C, rfl, h1, h2, h3, h4, h5⟩ := x
  exact ⟨e, C, rfl, h1, o, h2, h3, by unfold notCls; rw [h5], by rw [h4]; trivial⟩
theorem Stk.inK {h : Heap} (O : G.Ok) (S : Stk G A h fr envs) : G.K.In h := O.inK.keeps S.base
theorem isi_exc_value (O : G.Ok) (S : Stk G A s.heap fr envs) {c : Nat} {v : Value} (x : ExcAt G.ca c s.heap v) {Q : Value → Shared → Prop} (h : Then G.ca hid fr s (.d (.bool true)) Q) :
    wpAny (model G.prog G.w) A (call (.builtin "isinstance") [v, .type "ValueError"]) Q E s := by
  obtain ⟨e, C, rfl, hc, o, i⟩ := exc_inst x
  exact isi_any O hc (S.inK O) i (fun _ => rfl) (Looks.of_pure type_ValueError) (Looks.of_pure rfl) (looks_mroIn (S.inK O) (own_facts O hc).2.2.2.2.2.2.1) fun tk => h.bool tk
theorem isi_exc_own (O : G.Ok) (S : Stk G A s.heap fr envs) {c c' : Nat} {v : Value} {C' : Addr} (x : ExcAt G.ca c s.heap v) (hc' : G.ca[c']? = some C') {Q : Value → Shared → Prop} (h : Then G.ca hid fr s (.d (.bool (c' == 0 || c == c'))) Q) :
    wpAny (model G.prog G.w) A (call (.builtin "isinstance") [v, .ref C']) Q E s := by
  obtain ⟨e, C, rfl, hc, o, i⟩ := exc_inst x
  have hs := O.csub _ _ _ _ hc hc'
  refine isi_any O hc (S.inK O) i (fun q => ?_) (looks_typeIn (S.inK O) (own_facts O hc').2.2.2.2.2.2.2) (cls_isType O hc' (S.inK O)) (looks_mroIn (S.inK O) hs) fun tk => h.bool tk
  have e1 : C = C' := Value.ref.inj (beq_iff_eq.mp q)
  subst e1
  have h1 := O.csub _ _ _ _ hc hc
  rw [hs] at h1
  simpa using h1
end
end TC

namespace TC
open PySem PySem.W PyProof.Rows

/-! The ends of an expression; names; lists of arguments. -/

noncomputable def Ends (G : Gl) (hid fr : List Addr) (s : Shared) (K : V → Prop) (Q : Value → Shared → Prop) : Prop :=
  ∀ v s' u, TR G.ca s.heap hid fr s'.heap v u → Ext fr s.heap s'.heap → Same s s' → K u → Q v s'
noncomputable def Thrown (G : Gl) (fr : List Addr) (s : Shared) (X : Nat → Prop) (E : Value → Shared → Prop) : Prop :=
  ∀ e s' c, Raised G fr s.heap e c s'.heap → Same s s' → X c → E (.ref e) s'
/-- the expressions of the text that the lowering takes with fuel n -/
noncomputable def SE (G : Gl) (Φ : Call) (dep n : Nat) : Prop :=
  ∀ (cx : Cx) (env : Env) (hm : Bool) (A : Around) (s : Shared) (hid fr : List Addr) (envs : List Env) (ρ : Rho) (pe : Expr) (e : E) (K : V → Prop) (X : Nat → Prop) (Q : Value → Shared → Prop) (E : Value → Shared → Prop),
    lowE n cx pe = some e → Sit G dep cx env hm A s.heap hid fr envs ρ → wpE Φ hm e ρ K X → Ends G hid fr s K Q → Thrown G fr s X E → wpAny (model G.prog G.w) A (eval pe env) Q E s
noncomputable def ST (G : Gl) (Φ : Call) (dep n : Nat) : Prop :=
  ∀ (cx : Cx) (env : Env) (hm : Bool) (A : Around) (s : Shared) (hid fr : List Addr) (envs : List Env) (ρ : Rho) (pe : Expr) (e : E) (K : V → Prop) (X : Nat → Prop) (Q : Bool → Shared → Prop) (E : Value → Shared → Prop),
    lowE n cx pe = some e → Sit G dep cx env hm A s.heap hid fr envs ρ → wpE Φ hm e ρ K X → (∀ u, K u → ∃ c, u = .d (.bool c)) → (∀ c s', Ext fr s.heap s'.heap → Same s s' → K (.d (.bool c)) → Q c s') → Thrown G fr s X E →
    wpAny (model G.prog G.w) A (isTrue pe env (eval pe env)) Q E s

section
variable {G : Gl} {Φ : Call} {dep n : Nat} {cx : Cx} {env : Env} {hm : Bool} {A : Around} {s s₁ s₂ : Shared} {hid fr : List Addr} {envs : List Env} {ρ : Rho} {K : V → Prop} {X : Nat → Prop} {Q : Value → Shared → Prop} {E : Value → Shared → Prop}
  {v v1 v2 : Value} {u u1 u2 : V}

theorem got_some {α : Type} {o : Option α} {K : α → Prop} (h : got o K) : ∃ v, o = some v ∧ K v := by
  cases o with
  | none => exact h.elim
  | some v => exact ⟨v, rfl, h⟩
theorem Ends.to (x : Ends G hid fr s K Q) (k : Ext fr s.heap s₁.heap) (m : Same s s₁) (h : K u) : Then G.ca hid fr s₁ u Q := fun v s' r e m' => x v s' u (r.back k) (k.trans e) (m.trans m') h
theorem Ends.here (x : Ends G hid fr s K Q) (h : K u) : Then G.ca hid fr s u Q := x.to (Ext.refl _ _) (Same.refl _) h
theorem Ends.from (x : Ends G hid fr s K Q) (k : Ext fr s.heap s₁.heap) (m : Same s s₁) : Ends G hid fr s₁ K Q := fun v s' u r e m' h => x v s' u (r.back k) (k.trans e) (m.trans m') h
theorem Thrown.from (x : Thrown G fr s X E) (k : Ext fr s.heap s₁.heap) (m : Same s s₁) : Thrown G fr s₁ X E := fun e s' c r m' h => x e s' c (r.back k) (m.trans m') h
theorem Sit.Dom (S : Sit G dep cx env hm A s.heap hid fr envs ρ) : Dom hid s.heap := S.dom
theorem Sit.trx (S : Sit G dep cx env hm A s.heap hid fr envs ρ) (r : TR G.ca s.heap hid fr s₁.heap v u) (k : Ext fr s.heap s₁.heap) (k' : Ext fr s₁.heap s₂.heap) : TR G.ca s.heap hid fr s₂.heap v u :=
  r.ext k' S.sub (fun b hb => S.dom b (S.sub b hb)) k

theorem var_inv {x : Str} {i : Nat} (h : cx.var x = some i) : (x == ("__debug__" : Str)) = false ∧ cx.tb.lookup x = some i ∧ (cx.kd.lookup x = some .local ∨ cx.kd.lookup x = some .cell ∨ cx.kd.lookup x = some .free) := by
  unfold Cx.var at h
  split at h
  · cases h
  · rename_i c
    refine ⟨Bool.eq_false_iff.mpr c, ?_⟩
    split at h
    · rename_i q; exact ⟨h, .inl q⟩
    · rename_i q; exact ⟨h, .inr (.inl q)⟩
    · rename_i q; exact ⟨h, .inr (.inr q)⟩
    · cases h
theorem load_var {x : Str} {pos : Pos} (kf : env.scope.kind = .function) (nocd : env.kindOf x = some .free → (x == ("__classdict__" : Str)) = false) (hd : (x == ("__debug__" : Str)) = false) (a : varAt env s.heap x v) (h : Q v s) :
    wpAny (model G.prog G.w) A (eval (.Name x pos) env) Q E s := by
  refine wpAny_Name ?_ hd
  rcases a with ⟨k, m, hn, hv⟩ | ⟨k | k, c, hc, hv⟩
  · exact wpAny_loadName_local kf k hn hv h
  · exact wpAny_loadName_cell kf k hc hv h
  · exact wpAny_loadName_free kf k hc hv h (nocd k)
theorem name_var {x : Str} {i : Nat} {pos : Pos} (S : Sit G dep cx env hm A s.heap hid fr envs ρ) (hv : cx.var x = some i) (hu : ρ[i]? = some (some u)) (h : ∀ v, TR G.ca s.heap hid fr s.heap v (nmV u) → Q v s) :
    wpAny (model G.prog G.w) A (eval (.Name x pos) env) Q E s := by
  obtain ⟨h1, h2, h3⟩ := var_inv hv
  obtain ⟨v, a, r⟩ := S.envr x i h2 u hu
  exact load_var S.envok.kind (fun q => S.envok.nocd x (by rw [← S.envok.names]; exact q)) h1 a (h v r)

theorem glob_inv {x : Str} (h : cx.glob x = true) : cx.kd.lookup x = some .globalImplicit ∧ (x == ("__debug__" : Str)) = false ∧ x ≠ "__name__" := by
  unfold Cx.glob at h
  simp only [Bool.and_eq_true, beq_iff_eq, bne_iff_ne, ne_eq] at h
  exact ⟨h.1.1, Bool.eq_false_iff.mpr fun q => h.1.2 (beq_iff_eq.mp q), h.2⟩
theorem name_own {x : Str} {pos : Pos} (O : G.Ok) (S : Sit G dep cx env hm A s.heap hid fr envs ρ) (hg : cx.glob x = true) (e : nsIn G.K mainGlobals x = some (some v)) (h : Q v s) : wpAny (model G.prog G.w) A (eval (.Name x pos) env) Q E s := by
  obtain ⟨h1, h2, _⟩ := glob_inv hg
  refine Calls.Name_function_global S.envok.kind (by unfold Env.kindOf; rw [S.envok.names]; exact h1) (Calls.loadGlobal_global (mg := G.mg) ?_ (mg_of O.inK O.top.g e) h) h2
  rw [S.envok.glob]
  exact O.top.g.keeps S.stk.base
theorem name_built {x : Str} {pos : Pos} (O : G.Ok) (S : Sit G dep cx env hm A s.heap hid fr envs ρ) (hg : cx.glob x = true) (m : x ∈ usedNames) (hv : bootBuiltins x = some v) (h : Q v s) : wpAny (model G.prog G.w) A (eval (.Name x pos) env) Q E s := by
  obtain ⟨h1, h2, h3⟩ := glob_inv hg
  refine Calls.Name_function_global S.envok.kind (by unfold Env.kindOf; rw [S.envok.names]; exact h1) (Calls.loadGlobal_builtin (mg := G.mg) (mb := G.mb) ?_ (mg_none_of O.inK O.top.g (O.bnm x m)) ?_ ((O.top.builtins x h3).trans hv) h) h2
  · rw [S.envok.glob]
    exact O.top.g.keeps S.stk.base
  · rw [S.envok.bns]
    exact O.top.b.keeps S.stk.base

/-! Lists of arguments. -/
noncomputable def TRs (ca : List Addr) (h₁ : Heap) (hid fr : List Addr) (h : Heap) : List Value → List V → Prop
  | [], [] => True
  | v :: vs, u :: us => TR ca h₁ hid fr h v u ∧ TRs ca h₁ hid fr h vs us
  | _, _ => False
theorem TRs.ext {ca : List Addr} {h₁ h h' : Heap} (k : Ext fr h h') (sub : ∀ b ∈ fr, b ∈ hid) (d : ∀ b ∈ fr, ∃ o, h₁.get? b = some o ∧ NT o) (k1 : Ext fr h₁ h) : ∀ {vs : List Value} {us : List V}, TRs ca h₁ hid fr h vs us → TRs ca h₁ hid fr h' vs us
  | [], [], _ => trivial
  | _ :: _, _ :: _, ⟨a, b⟩ => ⟨a.ext k sub d k1, TRs.ext k sub d k1 b⟩
theorem TRs.back {ca : List Addr} {h₀ h₁ h : Heap} (k : Ext fr h₀ h₁) : ∀ {vs : List Value} {us : List V}, TRs ca h₁ hid fr h vs us → TRs ca h₀ hid fr h vs us
  | [], [], _ => trivial
  | _ :: _, _ :: _, ⟨a, b⟩ => ⟨a.back k, TRs.back k b⟩
theorem TRs.keep {ca : List Addr} {h₁ h : Heap} (D1 : Dom hid h₁) (D : Dom hid h) : ∀ {vs : List Value} {us : List V} {xs : List PyData}, TRs ca h₁ hid fr h vs us → keepAll us = some xs → RdAll hid h vs xs
  | [], [], xs, _, e => by cases e; exact .nil _ _
  | _ :: _, _ :: _, xs, ⟨a, b⟩, e => by
    obtain ⟨x, e1, e2⟩ := Option.bind_eq_some_iff.mp e
    obtain ⟨ys, e3, rfl⟩ := Option.map_eq_some_iff.mp e2
    exact .cons (a.keep D1 D e1) (TRs.keep D1 D b e3)
theorem TRs.length {ca : List Addr} {h₁ h : Heap} : ∀ {vs : List Value} {us : List V}, TRs ca h₁ hid fr h vs us → vs.length = us.length
  | [], [], _ => rfl
  | _ :: _, _ :: _, ⟨_, b⟩ => by simp [TRs.length b]
theorem keepAll_length : ∀ {us : List V} {xs : List PyData}, keepAll us = some xs → xs.length = us.length
  | [], xs, e => by cases e; rfl
  | u :: us, xs, e => by
    obtain ⟨x, e1, e2⟩ := Option.bind_eq_some_iff.mp e
    obtain ⟨ys, e3, rfl⟩ := Option.map_eq_some_iff.mp e2
    simp [keepAll_length e3]

theorem star_of_low {pe : Expr} {e : TC.E} {rest : List Expr} (h : lowE n cx pe = some e) : starEach (pe :: rest) env = (false, eval pe env) :: starEach rest env := by
  cases n with
  | zero => cases h
  | succ n => cases pe <;> first | rfl | cases h
theorem plain_of_low {pos : Pos} : ∀ {es : List Expr} {es' : Es}, lowL (lowE n cx) es = some es' → (backTo pos (starEach es env)).any (·.1) = false
  | [], _, _ => rfl
  | e :: es, es', h => by
    obtain ⟨a, h1, h2⟩ := Option.bind_eq_some_iff.mp h
    obtain ⟨b, h3, _⟩ := Option.map_eq_some_iff.mp h2
    rw [star_of_low h1]
    show (false || (backTo pos (starEach es env)).any (·.1)) = false
    rw [plain_of_low h3]; rfl

theorem args_ok (IH : SE G Φ dep n) {pos : Pos} : ∀ {es : List Expr} {es' : Es} {s : Shared} {K : List V → Prop} {Q : List Value → Shared → Prop}, lowL (lowE n cx) es = some es' → Sit G dep cx env hm A s.heap hid fr envs ρ → wpEs Φ hm es' ρ K X →
    (∀ vs s' us, TRs G.ca s.heap hid fr s'.heap vs us → Ext fr s.heap s'.heap → Same s s' → us.length = es.length → K us → Q vs s') → Thrown G fr s X E → wpAny (model G.prog G.w) A (spliced (backTo pos (starEach es env))) Q E s
  | [], es', s, K, Q, h, S, w, k, t => by
    cases h
    exact args_nil (k [] s [] trivial (Ext.refl _ _) (Same.refl _) rfl w)
  | e :: es, es', s, K, Q, h, S, w, k, t => by
    obtain ⟨a, h1, h2⟩ := Option.bind_eq_some_iff.mp h
    obtain ⟨b, h3, rfl⟩ := Option.map_eq_some_iff.mp h2
    refine args_cons (IH cx env hm A s hid fr envs ρ e a _ X _ E h1 S w (fun v s₁ u r x m w' => ?_) t) (star_of_low h1)
    refine args_ok IH h3 (S.ext x) w' (fun vs s₂ us r' x' m' l w'' => k (v :: vs) s₂ (u :: us) ⟨S.trx r x x', r'.back x⟩ (x.trans x') (m.trans m') (by simp [l]) w'') (t.from x m)
end

end TC

namespace TC
open PySem PySem.W PyProof.Rows

/-! The cases of an expression. -/

/-- a call of a def, seen from without -/
structure CSit (G : Gl) (dep : Nat) (hm : Bool) (A : Around) (h : Heap) (hid fr : List Addr) (envs : List Env) : Prop where
  stk : Stk G A h fr envs
  depth : A.depth + dep ≤ 900
  units : A.units + 20 * dep ≤ 9000
  hok : HOk hm A h
  sub : ∀ b ∈ fr, b ∈ hid
  dom : Dom hid h
noncomputable def SC (G : Gl) (Φ : Call) (dep : Nat) : Prop :=
  ∀ (hm : Bool) (A : Around) (s : Shared) (hid fr : List Addr) (envs : List Env) (f : Nat) (a : Addr) (vs : List Value) (us : List V) (K : V → Prop) (X : Nat → Prop) (Q : Value → Shared → Prop) (E : Value → Shared → Prop),
    G.fa[f]? = some a → CSit G dep hm A s.heap hid fr envs → TRs G.ca s.heap hid fr s.heap vs us → (∀ u ∈ us, argV u = u) → Φ hm f us K X → Ends G hid fr s K Q → Thrown G fr s X E → wpAny (model G.prog G.w) A (call (.ref a) vs) Q E s

noncomputable def F1.callee : F1 → Value
  | .len => .builtin "len"
  | .sum => .builtin "sum"
  | .max => .builtin "max"
  | .min => .builtin "min"
  | .list => .type "list"
  | .tuple => .type "tuple"
  | .sorted => .builtin "sorted"
  | .sortedR => .builtin "sorted"
  | .int => .type "int"
  | .all => .builtin "all"
  | _ => .none
noncomputable def F2.callee : F2 → Value
  | .max => .builtin "max"
  | .min => .builtin "min"
  | .index => .none

theorem boot_len : bootBuiltins "len" = some (.builtin "len") := by decide +kernel
theorem boot_sum : bootBuiltins "sum" = some (.builtin "sum") := by decide +kernel
theorem boot_max : bootBuiltins "max" = some (.builtin "max") := by decide +kernel
theorem boot_min : bootBuiltins "min" = some (.builtin "min") := by decide +kernel
theorem boot_list : bootBuiltins "list" = some (.type "list") := by decide +kernel
theorem boot_tuple : bootBuiltins "tuple" = some (.type "tuple") := by decide +kernel
theorem boot_sorted : bootBuiltins "sorted" = some (.builtin "sorted") := by decide +kernel
theorem boot_int : bootBuiltins "int" = some (.type "int") := by decide +kernel
theorem boot_all : bootBuiltins "all" = some (.builtin "all") := by decide +kernel
theorem boot_bool : bootBuiltins "bool" = some (.type "bool") := by decide +kernel
theorem boot_range : bootBuiltins "range" = some (.type "range") := by decide +kernel
theorem boot_zip : bootBuiltins "zip" = some (.type "zip") := by decide +kernel
theorem boot_isinstance : bootBuiltins "isinstance" = some (.builtin "isinstance") := by decide +kernel
theorem boot_ValueError : bootBuiltins "ValueError" = some (.type "ValueError") := by decide +kernel

theorem f1_boot {x : Str} {f : F1} (h : lowF1 x = some f) : bootBuiltins x = some f.callee ∧ x ∈ usedNames ∧ ((∃ id, f.callee = .builtin id) ∨ ∃ T, f.callee = .type T) := by
  unfold lowF1 at h
  repeat (split at h; · (rename_i q; rw [beq_iff_eq] at q; subst q; cases h; first | exact ⟨boot_len, by decide, .inl ⟨_, rfl⟩⟩ | exact ⟨boot_sum, by decide, .inl ⟨_, rfl⟩⟩ | exact ⟨boot_max, by decide, .inl ⟨_, rfl⟩⟩ | exact ⟨boot_min, by decide, .inl ⟨_, rfl⟩⟩ | exact ⟨boot_list, by decide, .inr ⟨_, rfl⟩⟩ | exact ⟨boot_tuple, by decide, .inr ⟨_, rfl⟩⟩ | exact ⟨boot_sorted, by decide, .inl ⟨_, rfl⟩⟩ | exact ⟨boot_int, by decide, .inr ⟨_, rfl⟩⟩ | exact ⟨boot_all, by decide, .inl ⟨_, rfl⟩⟩))
  cases h
theorem f2_boot {x : Str} {f : F2} (h : lowF2 x = some f) : bootBuiltins x = some f.callee ∧ x ∈ usedNames ∧ ∃ id, f.callee = .builtin id := by
  unfold lowF2 at h
  repeat (split at h; · (rename_i q; rw [beq_iff_eq] at q; subst q; cases h; first | exact ⟨boot_max, by decide, _, rfl⟩ | exact ⟨boot_min, by decide, _, rfl⟩))
  cases h

section
variable {G : Gl} {Φ : Call} {dep n : Nat} {cx : Cx} {env : Env} {hm : Bool} {A : Around} {s s₁ s₂ : Shared} {hid fr : List Addr} {envs : List Env} {ρ : Rho} {K : V → Prop} {X : Nat → Prop} {Q : Value → Shared → Prop} {E : Value → Shared → Prop}
  {v v1 v2 : Value} {u u1 u2 : V} {h₁ : Heap}

theorem Sit.csit (S : Sit G dep cx env hm A s.heap hid fr envs ρ) : CSit G dep hm A s.heap hid fr envs := ⟨S.stk, S.depth, S.units, S.hok, S.sub, S.dom⟩

theorem f1_call {x : Str} {f : F1} (lo : lowF1 x = some f) (ev : f.ev u1 = some u) (C : CSit G dep hm A s.heap hid fr envs) (D1 : Dom hid h₁) (r : TR G.ca h₁ hid fr s.heap v1 u1) (h : Then G.ca hid fr s u Q) :
    wpAny (model G.prog G.w) A (call f.callee [v1]) Q E s := by
  have ne : f ≠ .lenset ∧ f ≠ .sortedset ∧ f ≠ .listrev ∧ f ≠ .not ∧ f ≠ .isNone ∧ f ≠ .notNone ∧ f ≠ .sortedR ∧ ∀ t, f ≠ .isi t := by
    unfold lowF1 at lo
    repeat (split at lo; · (cases lo; simp))
    cases lo
  have R : ∀ {x}, rd u1 = some x → Rd fr s.heap v1 x := fun e => r.rdf C.sub D1 C.dom e
  have isH : ∀ {xs : List PyData} {is : List Int}, rd u1 = some (.list xs) → intsOf xs = some is → ∃ a vs n, v1 = .ref a ∧ s.heap.get? a = some (listObj vs n) ∧ IntsAre vs.toList is := fun e ei => by
    obtain ⟨a, vs, n, q1, _, q2, q3⟩ := (R e).list_inv
    exact ⟨a, vs, n, q1, q2, ints_are q3 ei⟩
  cases f with
  | len =>
    obtain ⟨x, e1, ev⟩ := Option.bind_eq_some_iff.mp ev
    cases x with
    | list xs =>
      replace ev : (if xs.length < lim then some (V.d (.int xs.length)) else none) = some u := ev
      split at ev
      · rename_i hz; cases ev; exact len_call (R e1) rfl hz h
      · cases ev
    | tuple xs =>
      replace ev : (if xs.length < lim then some (V.d (.int xs.length)) else none) = some u := ev
      split at ev
      · rename_i hz; cases ev; exact len_call (R e1) rfl hz h
      · cases ev
    | _ => cases ev
  | sum =>
    obtain ⟨x, e1, ev⟩ := Option.bind_eq_some_iff.mp ev
    cases x with
    | list xs => obtain ⟨is, e2, rfl⟩ := Option.map_eq_some_iff.mp ev; exact sum_call C.hok (R e1) rfl e2 h
    | _ => cases ev
  | max =>
    obtain ⟨x, e1, ev⟩ := Option.bind_eq_some_iff.mp ev
    obtain ⟨xs, e2, ev⟩ := Option.bind_eq_some_iff.mp ev
    obtain ⟨is, e3, ev⟩ := Option.bind_eq_some_iff.mp ev
    obtain ⟨m, e4, rfl⟩ := Option.map_eq_some_iff.mp ev
    exact max_call C.hok (R e1) e2 e3 e4 h
  | min =>
    obtain ⟨x, e1, ev⟩ := Option.bind_eq_some_iff.mp ev
    obtain ⟨xs, e2, ev⟩ := Option.bind_eq_some_iff.mp ev
    obtain ⟨is, e3, ev⟩ := Option.bind_eq_some_iff.mp ev
    obtain ⟨m, e4, rfl⟩ := Option.map_eq_some_iff.mp ev
    exact min_call C.hok (R e1) e2 e3 e4 h
  | list =>
    have ev' : ((lsV u1).bind fun xs => if xs.length < lim then some (V.own (.list xs)) else none) = some u := by
      replace ev : (match rd u1 with | some (.dict kvs) => none | _ => (lsV u1).bind fun xs => if xs.length < lim then some (V.own (.list xs)) else none) = some u := ev
      split at ev
      · cases ev
      · exact ev
    obtain ⟨xs, e1, ev⟩ := Option.bind_eq_some_iff.mp ev'
    split at ev
    · rename_i hz; cases ev; obtain ⟨a, vs, n, rfl, h1, k1⟩ := r.ls C.dom e1; exact list_call h1 k1 hz h
    · cases ev
  | tuple =>
    obtain ⟨xs, e1, ev⟩ := Option.bind_eq_some_iff.mp ev
    split at ev
    · rename_i hz; cases ev; obtain ⟨a, vs, n, rfl, h1, k1⟩ := r.ls C.dom e1; exact tuple_call C.dom h1 k1 hz h
    · cases ev
  | sorted =>
    obtain ⟨x, e1, ev⟩ := Option.bind_eq_some_iff.mp ev
    cases x with
    | list xs =>
      replace ev : (match intsOf xs with
        | some is => if is.length < 64 then some (V.own (.list (ofInts (sortI is)))) else none
        | none => none) = some u := ev
      split at ev
      · rename_i is e2
        split at ev
        · rename_i hz; cases ev; obtain ⟨a, vs, n, rfl, h1, k1⟩ := isH e1 e2; exact sorted_call h1 k1 hz h
        · cases ev
      · cases ev
    | _ => cases ev
  | int =>
    cases u1 with
    | d x =>
      cases x with
      | bool b => cases ev; obtain rfl := Rd.bool_inv r; exact call_int_bool (h.int _ _)
      | _ => cases ev
    | _ => cases ev
  | all =>
    obtain ⟨x, e1, ev⟩ := Option.bind_eq_some_iff.mp ev
    cases x with
    | list xs => obtain ⟨is, e2, rfl⟩ := Option.map_eq_some_iff.mp ev; exact all_call C.hok (R e1) rfl e2 h
    | _ => cases ev
  | sortedR => exact absurd rfl ne.2.2.2.2.2.2.1
  | lenset => exact absurd rfl ne.1
  | sortedset => exact absurd rfl ne.2.1
  | listrev => exact absurd rfl ne.2.2.1
  | not => exact absurd rfl ne.2.2.2.1
  | isNone => exact absurd rfl ne.2.2.2.2.1
  | notNone => exact absurd rfl ne.2.2.2.2.2.1
  | isi t => exact absurd rfl (ne.2.2.2.2.2.2.2 t)
theorem f2_call {x : Str} {f : F2} (lo : lowF2 x = some f) (ev : f.ev u1 u2 = some u) (C : CSit G dep hm A s.heap hid fr envs) (hh : hm = false) {h₂ : Heap} (r1 : TR G.ca h₁ hid fr s.heap v1 u1) (r2 : TR G.ca h₂ hid fr s.heap v2 u2) (h : Then G.ca hid fr s u Q) :
    wpAny (model G.prog G.w) A (call f.callee [v1, v2]) Q E s := by
  have hn : A.handled = none := by rcases C.hok with q | q; exact q.2; rw [hh] at q; cases q.1
  cases f with
  | max =>
    unfold F2.ev at ev
    dsimp only at ev
    split at ev
    · cases ev
      obtain ⟨t1, rfl⟩ := Rd.int_inv r1
      obtain ⟨t2, rfl⟩ := Rd.int_inv r2
      exact max2_call hn h
    · cases ev
  | min =>
    unfold F2.ev at ev
    dsimp only at ev
    split at ev
    · cases ev
      obtain ⟨t1, rfl⟩ := Rd.int_inv r1
      obtain ⟨t2, rfl⟩ := Rd.int_inv r2
      exact min2_call hn h
    · cases ev
  | index => cases ev

/-- a call of a builtin function or type with plain arguments -/
theorem with_ok {cal : Value} {pe : Expr} {rest : List Expr} {pos : Pos} (hc : (∃ id, cal = .builtin id) ∨ ∃ T, cal = .type T) (he : starEach (pe :: rest) env = (false, eval pe env) :: starEach rest env) (hp : (backTo pos (starEach rest env)).any (·.1) = false)
    (h : wpAny (model G.prog G.w) A (spliced (backTo pos (starEach (pe :: rest) env))) (fun vs s₁ => wpAny (model G.prog G.w) A (call cal vs) Q E s₁) E s) :
    wpAny (model G.prog G.w) A (callWith pos cal [] (backTo pos (starEach (pe :: rest) env)) []) Q E s := by
  rcases hc with ⟨id, rfl⟩ | ⟨T, rfl⟩
  · exact PyProof.Rows.callWith_builtin1 h he hp
  · exact PyProof.Rows.callWith_type1 h he hp
theorem call_eq {func : Expr} {args : List Expr} {pos : Pos} (h : wpAny (model G.prog G.w) A (eval func env) (fun f s₁ => wpAny (model G.prog G.w) A (callWith pos f [] (backTo pos (starEach args env)) []) Q E s₁) E s)
    (he : ∃ x p, func = .Name x p) : wpAny (model G.prog G.w) A (eval (.Call func args [] pos) env) Q E s := by
  obtain ⟨x, p, rfl⟩ := he
  exact PyProof.Rows.Call_ h

theorem sit_hu (S : Sit G dep cx env hm A s.heap hid fr envs ρ) : A.units + 100 < cLine := by
  have := S.units
  show A.units + 100 < 9900
  omega

/-! one expression after another -/
theorem bin_case (IH : SE G Φ dep n) {l r : Expr} {po : Operator} {o : Op} {a b : TC.E} {pos : Pos} (lo : lowOp po = some o) (hl : lowE n cx l = some a) (hr : lowE n cx r = some b) (S : Sit G dep cx env hm A s.heap hid fr envs ρ)
    (w : wpE Φ hm (.op o a b) ρ K X) (k : Ends G hid fr s K Q) (t : Thrown G fr s X E) : wpAny (model G.prog G.w) A (eval (.BinOp l po r pos) env) Q E s := by
  refine wpAny_BinOp (IH _ _ _ _ _ _ _ _ _ _ _ _ _ _ _ hl S w (fun v1 s₁ u1 r1 x1 m1 w1 => ?_) t)
  refine IH _ _ _ _ _ _ _ _ _ _ _ _ _ _ _ hr (S.ext x1) w1 (fun v2 s₂ u2 r2 x2 m2 w2 => ?_) (t.from x1 m1)
  obtain ⟨u, ev, hk⟩ := opW_some w2
  exact bin_ok lo ev S.sub S.dom (S.ext x1).dom ((S.ext x1).ext x2).dom (S.trx r1 x1 x2) r2 (k.to (x1.trans x2) (m1.trans m2) hk)

/-- a chain of comparisons -/
theorem chain_ok (IH : SE G Φ dep n) {pos : Pos} : ∀ {os : List CmpOp} {rs : List Expr} {cs : Cs} {s s₀ : Shared} {v : Value} {u : V} {K : V → Prop} {Q : Value → Shared → Prop}, lowCs (lowE n cx) os rs = some cs → Sit G dep cx env hm A s.heap hid fr envs ρ → TR G.ca s₀.heap hid fr s.heap v u → Dom hid s₀.heap →
    Ext fr s₀.heap s.heap → wpC Φ hm cs u ρ K X → Ends G hid fr s K Q → Thrown G fr s X E → wpAny (model G.prog G.w) A (compareChain pos v os (evalEach rs env)) Q E s
  | [o], [e], cs, s, s₀, v, u, K, Q, lo, S, r, D, x0, w, k, t => by
    obtain ⟨o', h1, h2⟩ := Option.bind_eq_some_iff.mp lo
    obtain ⟨a, h3, rfl⟩ := Option.map_eq_some_iff.mp h2
    refine chain_last (IH _ _ _ _ _ _ _ _ _ _ _ _ _ _ _ h3 S w (fun v2 s₂ u2 r2 x2 m2 w2 => ?_) t)
    obtain ⟨u', ev, hk⟩ := opW_some w2
    exact cmp_ok h1 ev (sit_hu S) S.sub D S.dom (S.ext x2).dom (r.ext x2 S.sub (fun b hb => D b (S.sub b hb)) x0) r2 (k.to x2 m2 hk)
  | o :: o2 :: os, e :: e2 :: es, cs, s, s₀, v, u, K, Q, lo, S, r, D, x0, w, k, t => by
    obtain ⟨o', h1, h2⟩ := Option.bind_eq_some_iff.mp lo
    obtain ⟨a, h3, h4⟩ := Option.bind_eq_some_iff.mp h2
    obtain ⟨c, h5, rfl⟩ := Option.map_eq_some_iff.mp h4
    refine chain_link (IH _ _ _ _ _ _ _ _ _ _ _ _ _ _ _ h3 S w (fun v2 s₂ u2 r2 x2 m2 w2 => ?_) t)
    obtain ⟨u', ev, hk⟩ := opW_some w2
    have D2 := (S.ext x2).dom
    refine cmp_ok h1 ev (sit_hu S) S.sub D S.dom D2 (r.ext x2 S.sub (fun b hb => D b (S.sub b hb)) x0) r2 fun v3 s₃ r3 x3 m3 => ?_
    have hk' : ifB u' (wpC Φ hm c u2 ρ K X) (K (.d (.bool false))) := by
      cases c with
      | nil =>
        exfalso
        unfold lowCs at h5
        split at h5
        · obtain ⟨_, _, h6⟩ := Option.bind_eq_some_iff.mp h5; obtain ⟨_, _, h7⟩ := Option.map_eq_some_iff.mp h6; cases h7
        · obtain ⟨_, _, h6⟩ := Option.bind_eq_some_iff.mp h5; obtain ⟨_, _, h6⟩ := Option.bind_eq_some_iff.mp h6; obtain ⟨_, _, h7⟩ := Option.map_eq_some_iff.mp h6; cases h7
        · cases h5
      | cons => exact hk
    cases u' with
    | d y =>
      cases y with
      | bool b =>
        obtain rfl := Rd.bool_inv r3
        refine wpAny_truthy_bool ?_
        cases b with
        | true =>
          rw [if_pos rfl]
          exact chain_ok IH (s₀ := s) h5 ((S.ext x2).ext x3) (S.trx r2 x2 x3) S.dom (x2.trans x3) hk' (k.from (x2.trans x3) (m2.trans m3)) (t.from (x2.trans x3) (m2.trans m3))
        | false =>
          rw [if_neg (by decide)]
          exact k _ _ (.d (.bool false)) (Rd.bool _ _ _) (x2.trans x3) (m2.trans m3) hk'
      | _ => exact hk'.elim
    | _ => exact hk'.elim
  | [], _, cs, s, s₀, v, u, K, Q, lo, S, r, D, x0, w, k, t => by cases lo
  | _ :: _, [], cs, s, s₀, v, u, K, Q, lo, S, r, D, x0, w, k, t => by simp [lowCs] at lo
  | [_], _ :: _ :: _, cs, s, s₀, v, u, K, Q, lo, S, r, D, x0, w, k, t => by simp [lowCs] at lo
  | _ :: _ :: _, [_], cs, s, s₀, v, u, K, Q, lo, S, r, D, x0, w, k, t => by simp [lowCs] at lo
end
end TC

namespace TC
open PySem PySem.W PyProof.Rows

section
variable {G : Gl} {Φ : Call} {dep n : Nat} {cx : Cx} {env : Env} {hm : Bool} {A : Around} {s s₁ s₂ : Shared} {hid fr : List Addr} {envs : List Env} {ρ : Rho} {K : V → Prop} {X : Nat → Prop} {Q : Value → Shared → Prop} {E : Value → Shared → Prop}
  {v v1 v2 : Value} {u u1 u2 : V} {h₁ : Heap}

theorem lowCs_ne {f : Expr → Option TC.E} {os : List CmpOp} {rs : List Expr} (h : lowCs f os rs = some .nil) : False := by
  unfold lowCs at h
  split at h
  · obtain ⟨_, _, h6⟩ := Option.bind_eq_some_iff.mp h; obtain ⟨_, _, h7⟩ := Option.map_eq_some_iff.mp h6; cases h7
  · obtain ⟨_, _, h6⟩ := Option.bind_eq_some_iff.mp h; obtain ⟨_, _, h6⟩ := Option.bind_eq_some_iff.mp h6; obtain ⟨_, _, h7⟩ := Option.map_eq_some_iff.mp h6; cases h7
  · cases h
theorem ifB_inv {u : V} {a b : Prop} (h : ifB u a b) : ∃ c, u = .d (.bool c) ∧ (c = true → a) ∧ (c = false → b) := by
  cases u with
  | d y => cases y with
    | bool c => exact ⟨c, rfl, (by intro e; subst e; exact h), (by intro e; subst e; exact h)⟩
    | _ => exact h.elim
  | _ => exact h.elim

theorem test_ok (IH : SE G Φ dep n) {pos : Pos} : ∀ {os : List CmpOp} {rs : List Expr} {cs : Cs} {s s₀ : Shared} {v : Value} {u : V} {K : V → Prop} {Q : Bool → Shared → Prop}, lowCs (lowE n cx) os rs = some cs → Sit G dep cx env hm A s.heap hid fr envs ρ → TR G.ca s₀.heap hid fr s.heap v u → Dom hid s₀.heap →
    Ext fr s₀.heap s.heap → wpC Φ hm cs u ρ K X → (∀ u, K u → ∃ c, u = .d (.bool c)) → (∀ c s', Ext fr s.heap s'.heap → Same s s' → K (.d (.bool c)) → Q c s') → Thrown G fr s X E → wpAny (model G.prog G.w) A (testChain pos v os (evalEach rs env)) Q E s
  | [o], [e], cs, s, s₀, v, u, K, Q, lo, S, r, D, x0, w, kb, k, t => by
    obtain ⟨o', h1, h2⟩ := Option.bind_eq_some_iff.mp lo
    obtain ⟨a, h3, rfl⟩ := Option.map_eq_some_iff.mp h2
    refine test_last (IH _ _ _ _ _ _ _ _ _ _ _ _ _ _ _ h3 S w (fun v2 s₂ u2 r2 x2 m2 w2 => ?_) t)
    obtain ⟨u', ev, hk⟩ := opW_some w2
    refine cmp_ok h1 ev (sit_hu S) S.sub D S.dom (S.ext x2).dom (r.ext x2 S.sub (fun b hb => D b (S.sub b hb)) x0) r2 fun v3 s₃ r3 x3 m3 => ?_
    obtain ⟨c, rfl⟩ := kb _ hk
    obtain rfl := Rd.bool_inv r3
    exact wpAny_truthy_bool (k c _ (x2.trans x3) (m2.trans m3) hk)
  | o :: o2 :: os, e :: e2 :: es, cs, s, s₀, v, u, K, Q, lo, S, r, D, x0, w, kb, k, t => by
    obtain ⟨o', h1, h2⟩ := Option.bind_eq_some_iff.mp lo
    obtain ⟨a, h3, h4⟩ := Option.bind_eq_some_iff.mp h2
    obtain ⟨c, h5, rfl⟩ := Option.map_eq_some_iff.mp h4
    refine test_link (IH _ _ _ _ _ _ _ _ _ _ _ _ _ _ _ h3 S w (fun v2 s₂ u2 r2 x2 m2 w2 => ?_) t)
    obtain ⟨u', ev, hk⟩ := opW_some w2
    have D2 := (S.ext x2).dom
    refine cmp_ok h1 ev (sit_hu S) S.sub D S.dom D2 (r.ext x2 S.sub (fun b hb => D b (S.sub b hb)) x0) r2 fun v3 s₃ r3 x3 m3 => ?_
    have hk' : ifB u' (wpC Φ hm c u2 ρ K X) (K (.d (.bool false))) := by
      cases c with
      | nil => exact (lowCs_ne h5).elim
      | cons => exact hk
    obtain ⟨b, rfl, hk'⟩ := ifB_inv hk'
    obtain rfl := Rd.bool_inv r3
    refine wpAny_truthy_bool ?_
    cases b with
    | true =>
      rw [if_pos rfl]
      exact test_ok IH (s₀ := s) h5 ((S.ext x2).ext x3) (S.trx r2 x2 x3) S.dom (x2.trans x3) hk' kb (fun c s' x m => k c s' ((x2.trans x3).trans x) ((m2.trans m3).trans m)) (t.from (x2.trans x3) (m2.trans m3))
    | false =>
      rw [if_neg (by decide)]
      exact k false _ (x2.trans x3) (m2.trans m3) hk'
  | [], _, cs, s, s₀, v, u, K, Q, lo, S, r, D, x0, w, kb, k, t => by cases lo
  | _ :: _, [], cs, s, s₀, v, u, K, Q, lo, S, r, D, x0, w, kb, k, t => by simp [lowCs] at lo
  | [_], _ :: _ :: _, cs, s, s₀, v, u, K, Q, lo, S, r, D, x0, w, kb, k, t => by simp [lowCs] at lo
  | _ :: _ :: _, [_], cs, s, s₀, v, u, K, Q, lo, S, r, D, x0, w, kb, k, t => by simp [lowCs] at lo

theorem cmp_case (IH : SE G Φ dep n) {l : Expr} {os : List CmpOp} {rs : List Expr} {a : TC.E} {cs : Cs} {pos : Pos} (hl : lowE n cx l = some a) (hr : lowCs (lowE n cx) os rs = some cs) (hm' : lastMarks os rs = false) (S : Sit G dep cx env hm A s.heap hid fr envs ρ)
    (w : wpE Φ hm (.cmp a cs) ρ K X) (k : Ends G hid fr s K Q) (t : Thrown G fr s X E) : wpAny (model G.prog G.w) A (eval (.Compare l os rs pos) env) Q E s := by
  have go : ∀ {pos}, wpAny (model G.prog G.w) A (eval l env) (fun v s₁ => wpAny (model G.prog G.w) A (compareChain pos v os (evalEach rs env)) Q E s₁) E s := fun {pos} =>
    IH _ _ _ _ _ _ _ _ _ _ _ _ _ _ _ hl S w (fun v1 s₁ u1 r1 x1 m1 w1 => chain_ok IH (s₀ := s) hr (S.ext x1) r1 S.dom x1 w1 (k.from x1 m1) (t.from x1 m1)) t
  match os, rs, hr with
  | [o], [r], hr =>
    rw [eval_Compare1, markedBehindIn_of_false hm']
    exact wpAny_bind go
  | o :: o2 :: os, r :: r2 :: rs, hr => exact Compare_chain go hm'
  | [], _, hr => cases hr
  | _ :: _, [], hr => simp [lowCs] at hr
  | [_], _ :: _ :: _, hr => simp [lowCs] at hr
  | _ :: _ :: _, [_], hr => simp [lowCs] at hr
theorem cmp_test (IH : SE G Φ dep n) {l : Expr} {os : List CmpOp} {rs : List Expr} {a : TC.E} {cs : Cs} {pos : Pos} {whole : Sem Value} {Q : Bool → Shared → Prop} (hl : lowE n cx l = some a) (hr : lowCs (lowE n cx) os rs = some cs) (hm' : lastMarks os rs = false) (S : Sit G dep cx env hm A s.heap hid fr envs ρ)
    (w : wpE Φ hm (.cmp a cs) ρ K X) (kb : ∀ u, K u → ∃ c, u = .d (.bool c)) (k : ∀ c s', Ext fr s.heap s'.heap → Same s s' → K (.d (.bool c)) → Q c s') (t : Thrown G fr s X E) : wpAny (model G.prog G.w) A (isTrue (.Compare l os rs pos) env whole) Q E s := by
  show wpAny _ A (do testChain pos (← eval l env) os (markedEach os rs (evalEach rs env))) Q E s
  rw [markedEach_of_false _ _ _ hm']
  exact wpAny_bind (IH _ _ _ _ _ _ _ _ _ _ _ _ _ _ _ hl S w (fun v1 s₁ u1 r1 x1 m1 w1 => test_ok IH (s₀ := s) hr (S.ext x1) r1 S.dom x1 w1 kb (fun c s' x m => k c s' (x1.trans x) (m1.trans m)) (t.from x1 m1)) t)

/-! and, or -/
theorem and_case (IH : SE G Φ dep n) {pos : Pos} : ∀ {es : List Expr} {es' : Es} {s : Shared} {K : V → Prop} {Q : Value → Shared → Prop}, lowL (lowE n cx) es = some es' → Sit G dep cx env hm A s.heap hid fr envs ρ → wpAnd Φ hm es' ρ K X → Ends G hid fr s K Q → Thrown G fr s X E →
    wpAny (model G.prog G.w) A (eval (.BoolOp .And es pos) env) Q E s
  | [], es', s, K, Q, lo, S, w, k, t => by cases lo; exact w.elim
  | [e], es', s, K, Q, lo, S, w, k, t => by
    obtain ⟨a, h1, h2⟩ := Option.bind_eq_some_iff.mp lo
    cases h2
    refine BoolOp_one (IH _ _ _ _ _ _ _ _ _ _ _ _ _ _ _ h1 S w (fun v1 s₁ u1 r1 x1 m1 w1 => ?_) t)
    obtain ⟨b, rfl, w1⟩ := ifB_inv w1
    cases b with
    | true => exact k _ _ _ r1 x1 m1 w1
    | false => exact k _ _ _ r1 x1 m1 w1
  | e :: e2 :: es, es', s, K, Q, lo, S, w, k, t => by
    obtain ⟨a, h1, h2⟩ := Option.bind_eq_some_iff.mp lo
    obtain ⟨b, h3, rfl⟩ := Option.map_eq_some_iff.mp h2
    have hb : ∃ x y, b = .cons x y := by
      obtain ⟨a2, _, h5⟩ := Option.bind_eq_some_iff.mp h3
      obtain ⟨b2, _, rfl⟩ := Option.map_eq_some_iff.mp h5
      exact ⟨_, _, rfl⟩
    refine BoolOp_and (IH _ _ _ _ _ _ _ _ _ _ _ _ _ _ _ h1 S w (fun v1 s₁ u1 r1 x1 m1 w1 => ?_) t)
    obtain ⟨c, rfl, w1⟩ := ifB_inv w1
    obtain rfl := Rd.bool_inv r1
    refine wpAny_truthy_bool ?_
    cases c with
    | true =>
      rw [if_pos rfl]
      refine and_case IH h3 (S.ext x1) ?_ (k.from x1 m1) (t.from x1 m1)
      obtain ⟨x, y, rfl⟩ := hb
      exact w1
    | false =>
      rw [if_neg (by decide)]
      exact k _ _ (.d (.bool false)) (Rd.bool _ _ _) x1 m1 w1
theorem or_case (IH : SE G Φ dep n) {pos : Pos} : ∀ {es : List Expr} {es' : Es} {s : Shared} {K : V → Prop} {Q : Value → Shared → Prop}, lowL (lowE n cx) es = some es' → Sit G dep cx env hm A s.heap hid fr envs ρ → wpOr Φ hm es' ρ K X → Ends G hid fr s K Q → Thrown G fr s X E →
    wpAny (model G.prog G.w) A (eval (.BoolOp .Or es pos) env) Q E s
  | [], es', s, K, Q, lo, S, w, k, t => by cases lo; exact w.elim
  | [e], es', s, K, Q, lo, S, w, k, t => by
    obtain ⟨a, h1, h2⟩ := Option.bind_eq_some_iff.mp lo
    cases h2
    refine BoolOp_one (IH _ _ _ _ _ _ _ _ _ _ _ _ _ _ _ h1 S w (fun v1 s₁ u1 r1 x1 m1 w1 => ?_) t)
    obtain ⟨b, rfl, w1⟩ := ifB_inv w1
    cases b with
    | true => exact k _ _ _ r1 x1 m1 w1
    | false => exact k _ _ _ r1 x1 m1 w1
  | e :: e2 :: es, es', s, K, Q, lo, S, w, k, t => by
    obtain ⟨a, h1, h2⟩ := Option.bind_eq_some_iff.mp lo
    obtain ⟨b, h3, rfl⟩ := Option.map_eq_some_iff.mp h2
    have hb : ∃ x y, b = .cons x y := by
      obtain ⟨a2, _, h5⟩ := Option.bind_eq_some_iff.mp h3
      obtain ⟨b2, _, rfl⟩ := Option.map_eq_some_iff.mp h5
      exact ⟨_, _, rfl⟩
    refine BoolOp_or (IH _ _ _ _ _ _ _ _ _ _ _ _ _ _ _ h1 S w (fun v1 s₁ u1 r1 x1 m1 w1 => ?_) t)
    obtain ⟨c, rfl, w1⟩ := ifB_inv w1
    obtain rfl := Rd.bool_inv r1
    refine wpAny_truthy_bool ?_
    cases c with
    | true =>
      rw [if_pos rfl]
      exact k _ _ (.d (.bool true)) (Rd.bool _ _ _) x1 m1 w1
    | false =>
      rw [if_neg (by decide)]
      refine or_case IH h3 (S.ext x1) ?_ (k.from x1 m1) (t.from x1 m1)
      obtain ⟨x, y, rfl⟩ := hb
      exact w1
theorem and_test (IT : ST G Φ dep n) {pos : Pos} {whole : Sem Value} : ∀ {es : List Expr} {es' : Es} {s : Shared} {K : V → Prop} {Q : Bool → Shared → Prop}, lowL (lowE n cx) es = some es' → Sit G dep cx env hm A s.heap hid fr envs ρ → wpAnd Φ hm es' ρ K X →
    (∀ c s', Ext fr s.heap s'.heap → Same s s' → K (.d (.bool c)) → Q c s') → Thrown G fr s X E → wpAny (model G.prog G.w) A (isTrue (.BoolOp .And es pos) env whole) Q E s
  | [], es', s, K, Q, lo, S, w, k, t => by cases lo; exact w.elim
  | e :: es, es', s, K, Q, lo, S, w, k, t => by
    obtain ⟨a, h1, h2⟩ := Option.bind_eq_some_iff.mp lo
    obtain ⟨b, h3, rfl⟩ := Option.map_eq_some_iff.mp h2
    refine isTrue_and (IT _ _ _ _ _ _ _ _ _ _ _ _ _ _ _ h1 S w (fun u h => let ⟨c, e, _⟩ := ifB_inv h; ⟨c, e⟩) (fun c s₁ x1 m1 w1 => ?_) t)
    obtain ⟨c', e, w1⟩ := ifB_inv w1
    cases e
    cases c with
    | false => rw [if_neg (by decide)]; exact k _ _ x1 m1 (w1.2 rfl)
    | true =>
      rw [if_pos rfl]
      match es, b, h3, w1 with
      | [], .nil, h3, w1 => exact isTrue_and_nil (k _ _ x1 m1 (w1.1 rfl))
      | e2 :: es, .cons .., h3, w1 => exact and_test IT h3 (S.ext x1) (w1.1 rfl) (fun c s' x m => k c s' (x1.trans x) (m1.trans m)) (t.from x1 m1)
      | [], .cons .., h3, w1 => cases h3
      | e2 :: es, .nil, h3, w1 => obtain ⟨a2, _, h5⟩ := Option.bind_eq_some_iff.mp h3; obtain ⟨b2, _, h6⟩ := Option.map_eq_some_iff.mp h5; cases h6
theorem or_test (IT : ST G Φ dep n) {pos : Pos} {whole : Sem Value} : ∀ {es : List Expr} {es' : Es} {s : Shared} {K : V → Prop} {Q : Bool → Shared → Prop}, lowL (lowE n cx) es = some es' → Sit G dep cx env hm A s.heap hid fr envs ρ → wpOr Φ hm es' ρ K X →
    (∀ c s', Ext fr s.heap s'.heap → Same s s' → K (.d (.bool c)) → Q c s') → Thrown G fr s X E → wpAny (model G.prog G.w) A (isTrue (.BoolOp .Or es pos) env whole) Q E s
  | [], es', s, K, Q, lo, S, w, k, t => by cases lo; exact w.elim
  | e :: es, es', s, K, Q, lo, S, w, k, t => by
    obtain ⟨a, h1, h2⟩ := Option.bind_eq_some_iff.mp lo
    obtain ⟨b, h3, rfl⟩ := Option.map_eq_some_iff.mp h2
    refine isTrue_or (IT _ _ _ _ _ _ _ _ _ _ _ _ _ _ _ h1 S w (fun u h => let ⟨c, e, _⟩ := ifB_inv h; ⟨c, e⟩) (fun c s₁ x1 m1 w1 => ?_) t)
    obtain ⟨c', e, w1⟩ := ifB_inv w1
    cases e
    cases c with
    | true => rw [if_pos rfl]; exact k _ _ x1 m1 (w1.1 rfl)
    | false =>
      rw [if_neg (by decide)]
      match es, b, h3, w1 with
      | [], .nil, h3, w1 => exact isTrue_or_nil (k _ _ x1 m1 (w1.2 rfl))
      | e2 :: es, .cons .., h3, w1 => exact or_test IT h3 (S.ext x1) (w1.2 rfl) (fun c s' x m => k c s' (x1.trans x) (m1.trans m)) (t.from x1 m1)
      | [], .cons .., h3, w1 => cases h3
      | e2 :: es, .nil, h3, w1 => obtain ⟨a2, _, h5⟩ := Option.bind_eq_some_iff.mp h3; obtain ⟨b2, _, h6⟩ := Option.map_eq_some_iff.mp h5; cases h6
end
end TC

namespace TC
open PySem PySem.W PyProof.Rows

section
variable {G : Gl} {Φ : Call} {dep n : Nat} {cx : Cx} {env : Env} {hm : Bool} {A : Around} {s s₁ s₂ : Shared} {hid fr : List Addr} {envs : List Env} {ρ : Rho} {K : V → Prop} {X : Nat → Prop} {Q : Value → Shared → Prop} {E : Value → Shared → Prop}
  {v v1 v2 : Value} {u u1 u2 : V} {h₁ : Heap}

theorem not_case (IH : SE G Φ dep n) {x : Expr} {a : TC.E} {pos : Pos} (hl : lowE n cx x = some a) (S : Sit G dep cx env hm A s.heap hid fr envs ρ) (w : wpE Φ hm (.f1 .not a) ρ K X) (k : Ends G hid fr s K Q) (t : Thrown G fr s X E) :
    wpAny (model G.prog G.w) A (eval (.UnaryOp .Not x pos) env) Q E s := by
  refine UnaryOp_ (IH _ _ _ _ _ _ _ _ _ _ _ _ _ _ _ hl S w (fun v1 s₁ u1 r1 x1 m1 w1 => ?_) t)
  obtain ⟨u, ev, hk⟩ := got_some (qW_inv w1).2
  cases u1 with
  | d y => cases y with
    | bool b => cases ev; obtain rfl := Rd.bool_inv r1; exact not_of (wpAny_truthy_bool (k _ _ (.d (.bool (!b))) (Rd.bool _ _ _) x1 m1 hk))
    | _ => cases ev
  | _ => cases ev
theorem not_test (IT : ST G Φ dep n) {x : Expr} {a : TC.E} {pos : Pos} {whole : Sem Value} {Q : Bool → Shared → Prop} (hl : lowE n cx x = some a) (S : Sit G dep cx env hm A s.heap hid fr envs ρ) (w : wpE Φ hm (.f1 .not a) ρ K X)
    (k : ∀ c s', Ext fr s.heap s'.heap → Same s s' → K (.d (.bool c)) → Q c s') (t : Thrown G fr s X E) : wpAny (model G.prog G.w) A (isTrue (.UnaryOp .Not x pos) env whole) Q E s := by
  refine isTrue_not (IT _ _ _ _ _ _ _ _ _ _ _ _ _ _ _ hl S w (fun u h => ?_) (fun c s₁ x1 m1 w1 => ?_) t)
  · obtain ⟨u', ev, hk⟩ := got_some (qW_inv h).2
    cases u with
    | d y => cases y with
      | bool b => exact ⟨b, rfl⟩
      | _ => cases ev
    | _ => cases ev
  · obtain ⟨u, ev, hk⟩ := got_some (qW_inv w1).2
    cases ev
    exact k _ _ x1 m1 hk

theorem none_case (IH : SE G Φ dep n) {x y : Expr} {a : TC.E} {pos : Pos} {neg : Bool} (hl : lowE n cx x = some a) (hn : isNoneC y = true) (S : Sit G dep cx env hm A s.heap hid fr envs ρ) (w : wpE Φ hm (.f1 (if neg then .notNone else .isNone) a) ρ K X) (k : Ends G hid fr s K Q) (t : Thrown G fr s X E) :
    wpAny (model G.prog G.w) A (eval (.Compare x [if neg then .IsNot else .Is] [y] pos) env) Q E s := by
  have hy : ∃ c p, y = .Constant .none c p := by
    unfold isNoneC at hn
    split at hn
    · exact ⟨_, _, rfl⟩
    · cases hn
  obtain ⟨c, p, rfl⟩ := hy
  refine wpAny_Compare1 (IH _ _ _ _ _ _ _ _ _ _ _ _ _ _ _ hl S w (fun v1 s₁ u1 r1 x1 m1 w1 => PyProof.Rows.Constant_none ?_) t) (by cases neg <;> rfl)
  obtain ⟨u, ev, hk⟩ := got_some (qW_inv w1).2
  have D1 := S.dom
  have D2 := (S.ext x1).dom
  cases neg with
  | false =>
    obtain ⟨y, e, rfl⟩ := Option.map_eq_some_iff.mp ev
    refine is_none_gen ?_
    rcases rd_none (r1.rdf S.sub D1 D2 e) with ⟨rfl, rfl⟩ | ⟨z1, z2⟩
    · exact k _ _ (.d (.bool true)) (Rd.bool _ _ _) x1 m1 hk
    · have q : isNon y = false := by cases y <;> first | rfl | exact absurd rfl z1
      rw [q] at hk
      rw [show (v1 == Value.none) = false from Bool.eq_false_iff.mpr fun q => z2 (beq_iff_eq.mp q)]
      exact k _ _ (.d (.bool false)) (Rd.bool _ _ _) x1 m1 hk
  | true =>
    obtain ⟨y, e, rfl⟩ := Option.map_eq_some_iff.mp ev
    refine isnot_none_gen ?_
    rcases rd_none (r1.rdf S.sub D1 D2 e) with ⟨rfl, rfl⟩ | ⟨z1, z2⟩
    · exact k _ _ (.d (.bool false)) (Rd.bool _ _ _) x1 m1 hk
    · have q : isNon y = false := by cases y <;> first | rfl | exact absurd rfl z1
      rw [q] at hk
      rw [show (v1 == Value.none) = false from Bool.eq_false_iff.mpr fun q => z2 (beq_iff_eq.mp q)]
      exact k _ _ (.d (.bool true)) (Rd.bool _ _ _) x1 m1 hk

theorem none_test (IH : SE G Φ dep n) {x y : Expr} {a : TC.E} {pos : Pos} {neg : Bool} (hl : lowE n cx x = some a) (hn : isNoneC y = true) (S : Sit G dep cx env hm A s.heap hid fr envs ρ) (w : wpE Φ hm (.f1 (if neg then .notNone else .isNone) a) ρ K X) {Q : Bool → Shared → Prop} {whole : Sem Value} (kb : ∀ u, K u → ∃ c, u = .d (.bool c)) (k : ∀ c s', Ext fr s.heap s'.heap → Same s s' → K (.d (.bool c)) → Q c s') (t : Thrown G fr s X E) :
    wpAny (model G.prog G.w) A (isTrue (.Compare x [if neg then .IsNot else .Is] [y] pos) env whole) Q E s := by
  have hy : ∃ c p, y = .Constant .none c p := by
    unfold isNoneC at hn
    split at hn
    · exact ⟨_, _, rfl⟩
    · cases hn
  obtain ⟨c, p, rfl⟩ := hy
  show wpAny _ A (do testChain pos (← eval x env) [if neg then .IsNot else .Is] (markedEach [if neg then .IsNot else .Is] [.Constant .none c p] (evalEach [.Constant .none c p] env))) Q E s
  rw [markedEach_of_false _ _ _ (by cases neg <;> rfl)]
  refine wpAny_bind (IH _ _ _ _ _ _ _ _ _ _ _ _ _ _ _ hl S w (fun v1 s₁ u1 r1 x1 m1 w1 => test_last (PyProof.Rows.Constant_none ?_)) t)
  obtain ⟨u, ev, hk⟩ := got_some (qW_inv w1).2
  have D1 := S.dom
  have D2 := (S.ext x1).dom
  cases neg with
  | false =>
    obtain ⟨y, e, rfl⟩ := Option.map_eq_some_iff.mp ev
    refine is_none_gen ?_
    rcases rd_none (r1.rdf S.sub D1 D2 e) with ⟨rfl, rfl⟩ | ⟨z1, z2⟩
    · exact wpAny_truthy_bool (k true _ x1 m1 hk)
    · have q : isNon y = false := by cases y <;> first | rfl | exact absurd rfl z1
      rw [q] at hk
      rw [show (v1 == Value.none) = false from Bool.eq_false_iff.mpr fun q => z2 (beq_iff_eq.mp q)]
      exact wpAny_truthy_bool (k false _ x1 m1 hk)
  | true =>
    obtain ⟨y, e, rfl⟩ := Option.map_eq_some_iff.mp ev
    refine isnot_none_gen ?_
    rcases rd_none (r1.rdf S.sub D1 D2 e) with ⟨rfl, rfl⟩ | ⟨z1, z2⟩
    · exact wpAny_truthy_bool (k false _ x1 m1 hk)
    · have q : isNon y = false := by cases y <;> first | rfl | exact absurd rfl z1
      rw [q] at hk
      rw [show (v1 == Value.none) = false from Bool.eq_false_iff.mpr fun q => z2 (beq_iff_eq.mp q)]
      exact wpAny_truthy_bool (k true _ x1 m1 hk)

theorem tup_case (IH : SE G Φ dep n) {es : List Expr} {es' : Es} {c : Nat} {pos : Pos} (hl : lowL (lowE n cx) es = some es') (hz : es.length < 1000) (S : Sit G dep cx env hm A s.heap hid fr envs ρ) (w : wpE Φ hm (.tup es') ρ K X) (k : Ends G hid fr s K Q) (t : Thrown G fr s X E) :
    wpAny (model G.prog G.w) A (eval (.Tuple es c pos) env) Q E s := by
  refine Tuple_ (args_ok IH hl S w (fun vs s' us r x m l w' => ?_) t)
  obtain ⟨xs, e, hk⟩ := got_some w'
  refine newTuple_ok (S.ext x).dom (r.keep S.dom (S.ext x).dom e) ?_ (k.to x m hk)
  rw [keepAll_length e, l]; rw [lim_eq]; omega
theorem lst_case (IH : SE G Φ dep n) {es : List Expr} {es' : Es} {pos : Pos} (hl : lowL (lowE n cx) es = some es') (hz : es.length < 1000) (S : Sit G dep cx env hm A s.heap hid fr envs ρ) (w : wpE Φ hm (.lst es') ρ K X) (k : Ends G hid fr s K Q) (t : Thrown G fr s X E) :
    wpAny (model G.prog G.w) A (eval (.List es pos) env) Q E s := by
  refine List_ (args_ok IH hl S w (fun vs s' us r x m l w' => ?_) t)
  obtain ⟨xs, e, hk⟩ := got_some w'
  refine newList_ok (r.keep S.dom (S.ext x).dom e) ?_ (k.to x m hk)
  rw [keepAll_length e, l]; rw [lim_eq]; omega

theorem idx_case (IH : SE G Φ dep n) {x y : Expr} {a b : TC.E} {pos : Pos} (hl : lowE n cx x = some a) (hr : lowE n cx y = some b) (S : Sit G dep cx env hm A s.heap hid fr envs ρ) (w : wpE Φ hm (.idx a b) ρ K X) (k : Ends G hid fr s K Q) (t : Thrown G fr s X E) :
    wpAny (model G.prog G.w) A (eval (.Subscript x y pos) env) Q E s := by
  refine Subscript_ (IH _ _ _ _ _ _ _ _ _ _ _ _ _ _ _ hl S w (fun v1 s₁ u1 r1 x1 m1 w1 => ?_) t)
  refine IH _ _ _ _ _ _ _ _ _ _ _ _ _ _ _ hr (S.ext x1) w1 (fun v2 s₂ u2 r2 x2 m2 w2 => ?_) (t.from x1 m1)
  cases u2 with
  | d z => cases z with
    | int i =>
      obtain ⟨u, ev, hk⟩ := got_some w2
      obtain ⟨t2, rfl⟩ := Rd.int_inv r2
      refine idx_ok ev S.sub S.dom ((S.ext x1).ext x2).dom (S.trx r1 x1 x2) (fun v r => k _ _ _ r (x1.trans x2) (m1.trans m2) hk) ?_
      cases n with
      | zero => cases hr
      | succ n => cases y <;> first | rfl | cases hr
    | _ => exact w2.elim
  | _ => exact w2.elim

theorem from_case (IH : SE G Φ dep n) {x y : Expr} {a b : TC.E} {p pos : Pos} (hl : lowE n cx x = some a) (hr : lowE n cx y = some b) (S : Sit G dep cx env hm A s.heap hid fr envs ρ) (w : wpE Φ hm (.sfrom a b) ρ K X) (k : Ends G hid fr s K Q) (t : Thrown G fr s X E) :
    wpAny (model G.prog G.w) A (eval (.Subscript x (.Slice (some y) none none p) pos) env) Q E s := by
  refine Subscript_ (IH _ _ _ _ _ _ _ _ _ _ _ _ _ _ _ hl S w (fun v1 s₁ u1 r1 x1 m1 w1 => ?_) t)
  refine wpAny_Slice (IH _ _ _ _ _ _ _ _ _ _ _ _ _ _ _ hr (S.ext x1) w1 (fun v2 s₂ u2 r2 x2 m2 w2 => ?_) (t.from x1 m1))
  rw [evalPart_none]
  refine wpAny_pure (wpAny_pure ?_)
  cases u2 with
  | d z => cases z with
    | int i =>
      obtain ⟨u, ev, hk⟩ := got_some w2
      obtain ⟨t2, rfl⟩ := Rd.int_inv r2
      unfold fromV at ev
      obtain ⟨xs, e1, ev⟩ := Option.bind_eq_some_iff.mp ev
      split at ev
      · rename_i c
        cases ev
        obtain ⟨l, vs, nn, rfl, h1, k1⟩ := (S.trx r1 x1 x2).ls ((S.ext x1).ext x2).dom e1
        exact cut_ok h1 k1 c.2.2 (.int i t2) .none (pick_from k1 c.1) (k.to (x1.trans x2) (m1.trans m2) hk) rfl
      · cases ev
    | _ => exact w2.elim
  | _ => exact w2.elim
theorem upto_case (IH : SE G Φ dep n) {x y : Expr} {a b : TC.E} {p pos : Pos} (hl : lowE n cx x = some a) (hr : lowE n cx y = some b) (S : Sit G dep cx env hm A s.heap hid fr envs ρ) (w : wpE Φ hm (.sto a b) ρ K X) (k : Ends G hid fr s K Q) (t : Thrown G fr s X E) :
    wpAny (model G.prog G.w) A (eval (.Subscript x (.Slice none (some y) none p) pos) env) Q E s := by
  refine Subscript_ (IH _ _ _ _ _ _ _ _ _ _ _ _ _ _ _ hl S w (fun v1 s₁ u1 r1 x1 m1 w1 => ?_) t)
  refine wpAny_Slice ?_
  rw [evalPart_none]
  refine wpAny_pure (IH _ _ _ _ _ _ _ _ _ _ _ _ _ _ _ hr (S.ext x1) w1 (fun v2 s₂ u2 r2 x2 m2 w2 => ?_) (t.from x1 m1))
  refine wpAny_pure ?_
  cases u2 with
  | d z => cases z with
    | int i =>
      obtain ⟨u, ev, hk⟩ := got_some w2
      obtain ⟨t2, rfl⟩ := Rd.int_inv r2
      unfold toV at ev
      obtain ⟨xs, e1, ev⟩ := Option.bind_eq_some_iff.mp ev
      split at ev
      · rename_i c
        cases ev
        obtain ⟨l, vs, nn, rfl, h1, k1⟩ := (S.trx r1 x1 x2).ls ((S.ext x1).ext x2).dom e1
        exact cut_ok h1 k1 c.2.2 .none (.int i t2) (pick_upto k1 c.1) (k.to (x1.trans x2) (m1.trans m2) hk) rfl
      · cases ev
    | _ => exact w2.elim
  | _ => exact w2.elim

theorem f1_case (O : G.Ok) (IH : SE G Φ dep n) {f : Str} {g : F1} {x : Expr} {a : TC.E} {p pos : Pos} (hg : cx.glob f = true) (lo : lowF1 f = some g) (hl : lowE n cx x = some a) (S : Sit G dep cx env hm A s.heap hid fr envs ρ) (w : wpE Φ hm (.f1 g a) ρ K X)
    (k : Ends G hid fr s K Q) (t : Thrown G fr s X E) : wpAny (model G.prog G.w) A (eval (.Call (.Name f p) [x] [] pos) env) Q E s := by
  obtain ⟨b1, b2, b3⟩ := f1_boot lo
  refine call_eq (name_built O S hg b2 b1 (with_ok b3 (star_of_low hl) rfl (args_cons (IH _ _ _ _ _ _ _ _ _ _ _ _ _ _ _ hl S w (fun v1 s₁ u1 r1 x1 m1 w1 => args_nil ?_) t) (star_of_low hl)))) ⟨_, _, rfl⟩
  obtain ⟨u, ev, hk⟩ := got_some (qW_inv w1).2
  exact f1_call lo ev (S.ext x1).csit S.dom r1 (k.to x1 m1 hk)
theorem f2_case (O : G.Ok) (IH : SE G Φ dep n) {f : Str} {g : F2} {x y : Expr} {a b : TC.E} {p pos : Pos} (hg : cx.glob f = true) (lo : lowF2 f = some g) (hl : lowE n cx x = some a) (hr : lowE n cx y = some b) (S : Sit G dep cx env hm A s.heap hid fr envs ρ) (w : wpE Φ hm (.f2 g a b) ρ K X)
    (k : Ends G hid fr s K Q) (t : Thrown G fr s X E) : wpAny (model G.prog G.w) A (eval (.Call (.Name f p) [x, y] [] pos) env) Q E s := by
  obtain ⟨b1, b2, b3⟩ := f2_boot lo
  refine call_eq (name_built O S hg b2 b1 (with_ok (.inl b3) (star_of_low hl) (by rw [star_of_low hr]; rfl) (args_cons (IH _ _ _ _ _ _ _ _ _ _ _ _ _ _ _ hl S w (fun v1 s₁ u1 r1 x1 m1 w1 =>
    args_cons (IH _ _ _ _ _ _ _ _ _ _ _ _ _ _ _ hr (S.ext x1) w1 (fun v2 s₂ u2 r2 x2 m2 w2 => args_nil ?_) (t.from x1 m1)) (star_of_low hr)) t) (star_of_low hl)))) ⟨_, _, rfl⟩
  obtain ⟨u, ev, hk⟩ := got_some (q2W_inv w2).2
  exact f2_call lo ev ((S.ext x1).ext x2).csit (q2W_inv w2).1 (S.trx r1 x1 x2) r2 (k.to (x1.trans x2) (m1.trans m2) hk)

theorem isi_case (O : G.Ok) (IH : SE G Φ dep n) {x y : Expr} {T : Str} {ty : Ty} {a : TC.E} {p pos : Pos} (hg : cx.glob "isinstance" = true) (hy : tyName y = some T) (hT : cx.glob T = true) (lo : lowTy cx T = some ty) (hl : lowE n cx x = some a) (S : Sit G dep cx env hm A s.heap hid fr envs ρ)
    (w : wpE Φ hm (.f1 (.isi ty) a) ρ K X) (k : Ends G hid fr s K Q) (t : Thrown G fr s X E) : wpAny (model G.prog G.w) A (eval (.Call (.Name "isinstance" p) [x, y] [] pos) env) Q E s := by
  have hy' : ∃ q, y = .Name T q := by
    unfold tyName at hy
    split at hy
    · cases hy; exact ⟨_, rfl⟩
    · cases hy
  obtain ⟨q, rfl⟩ := hy'
  refine call_eq (name_built O S hg (by decide) boot_isinstance (with_ok (.inl ⟨_, rfl⟩) (star_of_low hl) rfl (args_cons (IH _ _ _ _ _ _ _ _ _ _ _ _ _ _ _ hl S w (fun v1 s₁ u1 r1 x1 m1 w1 => args_cons ?_ rfl) t) (star_of_low hl)))) ⟨_, _, rfl⟩
  obtain ⟨u, ev, hk⟩ := got_some (qW_inv w1).2
  have S1 := S.ext x1
  have D2 := S1.dom
  have data : ∀ {T' : String}, bootBuiltins T = some (.type T') → T ∈ usedNames → ((T' = "int" ∧ ty = .int) ∨ (T' = "bool" ∧ ty = .bool) ∨ (T' = "list" ∧ ty = .list) ∨ (T' = "tuple" ∧ ty = .tuple)) →
      (∃ y, rd u1 = some y ∧ u = .d (.bool (ty.has y))) → wpAny (model G.prog G.w) A (eval (.Name T q) env) (fun v s₁' => wpAny (model G.prog G.w) A (spliced (backTo pos (starEach [] env))) (fun vs s₂ => wpAny (model G.prog G.w) A (call (.builtin "isinstance") (v1 :: v :: vs)) Q E s₂) E s₁') E s₁ := fun hb hm' hT' ⟨y, e, hu⟩ =>
    name_built O S1 hT hm' hb (args_nil (isi_call hT' (r1.rdf S.sub S.dom D2 e) (by rw [hu] at hk; exact k.to x1 m1 hk)))
  unfold lowTy at lo
  have rest : ∀ {ty' : Ty}, (∀ c, ty' ≠ .exc c) → ty' ≠ .valueError → (F1.isi ty').ev u1 = some u → ∃ y, rd u1 = some y ∧ u = .d (.bool (ty'.has y)) := fun {ty'} n1 n2 ev => by
    have z : ((rd u1).map fun x => V.d (.bool (ty'.has x))) = some u := by
      cases u1 <;> cases ty' <;> first | exact ev | exact absurd rfl n2 | exact absurd rfl (n1 _) | cases ev
    obtain ⟨y, e, rfl⟩ := Option.map_eq_some_iff.mp z
    exact ⟨y, e, rfl⟩
  split at lo
  · rename_i q'; rw [beq_iff_eq] at q'; subst q'; cases lo
    exact data boot_int (by decide) (.inl ⟨rfl, rfl⟩) (rest (by simp) (by simp) ev)
  split at lo
  · rename_i q'; rw [beq_iff_eq] at q'; subst q'; cases lo
    exact data boot_bool (by decide) (.inr (.inl ⟨rfl, rfl⟩)) (rest (by simp) (by simp) ev)
  split at lo
  · rename_i q'; rw [beq_iff_eq] at q'; subst q'; cases lo
    exact data boot_list (by decide) (.inr (.inr (.inl ⟨rfl, rfl⟩))) (rest (by simp) (by simp) ev)
  split at lo
  · rename_i q'; rw [beq_iff_eq] at q'; subst q'; cases lo
    exact data boot_tuple (by decide) (.inr (.inr (.inr ⟨rfl, rfl⟩))) (rest (by simp) (by simp) ev)
  split at lo
  · rename_i q'; rw [beq_iff_eq] at q'; subst q'; cases lo
    cases u1 with
    | exc c => cases ev; exact name_built O S1 hT (by decide) boot_ValueError (args_nil (isi_exc_value O S1.stk r1 (k.to x1 m1 hk)))
    | _ => cases ev
  · obtain ⟨c', hc, rfl⟩ := Option.map_eq_some_iff.mp lo
    obtain ⟨a', h1, h2⟩ := O.cnm T c' (by rw [← S.envok.cls]; exact hc)
    cases u1 with
    | exc c => cases ev; exact name_own O S1 hT h2 (args_nil (isi_exc_own O S1.stk r1 h1 (k.to x1 m1 hk)))
    | _ => cases ev
end
end TC

namespace TC
open PySem PySem.W PyProof.Rows

/-! What a loop runs over. -/

noncomputable def quietIt (n : String) : Bool := !(["enumerate", "zip", "dict_itemiterator", "dict_reverseitemiterator", "odict_iterator", "itertools.zip_longest", "itertools.pairwise"].contains n)
/-- an iterator at I over the values us, reckoned at h₀; the heap is h -/
noncomputable def IterX (G : Gl) (A : Around) (hid fr : List Addr) (I : Addr) (us : List V) (h₀ h : Heap) (src : Value) : Prop :=
  ∃ fp P St, Walks G.prog G.w A I fp [I] us.length P St ∧ St 0 h ∧ (∀ b ∈ fp, b < h.objs.size ∧ b ∉ fr) ∧ (∀ i v, P i v → ∀ u, us[i]? = some u → TR G.ca h₀ hid fr h₀ v u) ∧ (∀ i h, St i h → ∃ o n, h.get? I = some o ∧ o.cls = .type n ∧ quietIt n = true ∧ NT o) ∧ (∀ u ∈ us, (∃ x, u = .d x) ∨ ∃ x, u = .brw x) ∧ ∀ b ∈ fp, b = I ∨ b ∈ hAddr A ∨ src = .ref b

section
variable {G : Gl} {Φ : Call} {dep n : Nat} {cx : Cx} {env : Env} {hm : Bool} {A : Around} {s s₁ s₂ : Shared} {hid fr : List Addr} {envs : List Env} {ρ : Rho} {K : V → Prop} {X : Nat → Prop} {E : Value → Shared → Prop}
  {v v1 v2 : Value} {u u1 u2 : V} {h₁ : Heap}

theorem letOwned_ok {target : Expr} {I : Addr} {v : Value} {o : Obj} {n : String} {M : Model} {Q : Unit → Shared → Prop} (h1 : s.heap.get? I = some o) (h2 : o.cls = .type n) (h3 : quietIt n = true) (h : Q () s) : wpAny M A (letOwnedTupleGo target (.ref I) v) Q E s := by
  have go : wpAny M A (letOwnedTupleGo target (.ref I) v) Q E s := by
    unfold letOwnedTupleGo
    have both : ∀ a : Addr, wpAny M A (do
        let o ← load I
        match o.cls, o.data with
        | .type n, .fields vs =>
          if ["enumerate", "zip", "dict_itemiterator", "dict_reverseitemiterator", "odict_iterator", "itertools.zip_longest", "itertools.pairwise"].contains n && vs[0]? == some (rawInt a) then
            rule "for.unpacks-the-owned-tuple"
            updateField I 0 .none
        | _, _ => pure ()) Q E s := fun a => by
      refine wpAny_bind (wpAny_load h1 ?_)
      rw [h2]
      unfold quietIt at h3
      rw [Bool.not_eq_true'] at h3
      cases o.data with
      | fields vs => dsimp only; rw [h3, Bool.false_and, if_neg (by decide)]; exact wpAny_pure h
      | _ => exact wpAny_pure h
    cases target with
    | Tuple => cases v <;> first | exact both _ | exact wpAny_pure h
    | List => cases v <;> first | exact both _ | exact wpAny_pure h
    | _ => exact wpAny_pure h
  exact go

theorem CSit.hfr (C : CSit G dep hm A s.heap hid fr envs) : ∀ b ∈ hAddr A, b ∉ fr := fun b hb => by
  rcases C.hok with ⟨_, q⟩ | ⟨q, e, e1, o, vs, q1, q2, q3⟩
  · unfold hAddr at hb; rw [q] at hb; cases hb
  · rw [hAddr_of e1] at hb; simp only [List.mem_singleton] at hb; subst hb; exact C.stk.notFields q1 q2

theorem iterx_seq {x : PyData} {xs : List PyData} {hd : List Addr} {us : List V} (C : CSit G dep hm A s.heap hid fr envs) (r : Rd hd s.heap v x) (hs : ∀ b ∈ fr, b ∈ hd) (e : seqOf x = some xs) (l : us.length = xs.length)
    (hu : ∀ (i : Nat) (w : Value) y u, xs[i]? = some y → us[i]? = some u → Rd hd s.heap w y → TR G.ca s.heap hid fr s.heap w u) (hp : ∀ u ∈ us, (∃ x, u = .d x) ∨ ∃ x, u = .brw x) {Q : Value → Shared → Prop}
    (h : ∀ I h', (∀ b o, s.heap.get? b = some o → h'.get? b = some o) → s.heap.get? I = none → IterX G A hid fr I us s.heap h' v → Q (.ref I) { s with heap := h' }) : wpAny (model G.prog G.w) A (pyIter v) Q E s := by
  have hk := C.hok
  have fin : ∀ {vs : Array Value} {a : Addr}, RdAll hd s.heap vs.toList xs → a < s.heap.objs.size → a ∉ fr → ∀ (i : Nat) (w : Value), vs[i]? = some w → ∀ u, us[i]? = some u → TR G.ca s.heap hid fr s.heap w u := fun {vs a} q _ _ i w e1 u e2 => by
    rw [← Array.getElem?_toList] at e1
    obtain ⟨y, e3, r3⟩ := q.get' e1
    exact hu i w y u e3 e2 r3
  have fps : ∀ {a : Addr} {o : Obj}, a < s.heap.objs.size → a ∉ fr → ∀ b ∈ s.heap.objs.size :: a :: hAddr A, b < (s.heap.push o).objs.size ∧ b ∉ fr := fun {a o} ha hf b hb => by
    rw [Heap.size_push]
    rcases List.mem_cons.mp hb with rfl | hb
    · exact ⟨Nat.lt_succ_self _, fun q => C.dom.fresh (size_none _) (C.sub _ q)⟩
    · rcases List.mem_cons.mp hb with rfl | hb
      · exact ⟨Nat.lt_succ_of_lt ha, hf⟩
      · exact ⟨Nat.lt_succ_of_lt (hk.lt _ hb), C.hfr b hb⟩
  cases x with
  | list ys =>
    cases e
    obtain ⟨a, vs, n, rfl, na, ho, q⟩ := r.list_inv
    have hl : s.heap.IsList a vs := ⟨_, ho, rfl, n, rfl⟩
    have lt := Heap.lt_size ho
    have nf : a ∉ fr := fun z => na (hs a z)
    have lz : us.length = vs.size := by rw [l, ← q.length, Array.length_toList]
    refine wpAny_pyIter_list hl (h _ _ (fun b o e => Heap.get?_push_of_some _ e) (size_none _) ?_)
    refine ⟨s.heap.objs.size :: a :: hAddr A, fun i v => vs[i]? = some v, fun i h => h.IsListIter s.heap.objs.size a i ∧ h.IsList a vs ∧ HOk hm A h, ?_, ⟨⟨_, Heap.get?_push_size _ rfl, rfl, rfl⟩, hl.push _, hk.at fun b hb o e => Heap.get?_push_of_some _ e⟩, fps lt nf, fin q lt nf, fun i h st => ?_, hp, fun b hb => ?_⟩
    · rw [lz]; exact walks_list _ a (Nat.ne_of_lt lt) (fun q => Nat.lt_irrefl _ (hk.lt _ q)) vs
    · obtain ⟨⟨o, e1, e2, e3⟩, _⟩ := st; exact ⟨o, _, e1, e2, by decide, fun _ vs k q => by rw [e3] at q; cases q⟩
    · rcases List.mem_cons.mp hb with z | z
      · exact .inl z
      · rcases List.mem_cons.mp z with z | z
        · exact .inr (.inr (by rw [z]))
        · exact .inr (.inl z)
  | tuple ys =>
    cases e
    obtain ⟨a, vs, n, rfl, na, ho, q⟩ := r.tuple_inv
    have hl : s.heap.IsTuple a vs := ⟨_, ho, rfl, n, rfl⟩
    have lt := Heap.lt_size ho
    have nf : a ∉ fr := fun z => na (hs a z)
    have lz : us.length = vs.size := by rw [l, ← q.length, Array.length_toList]
    refine wpAny_pyIter_tuple hl (h _ _ (fun b o e => Heap.get?_push_of_some _ e) (size_none _) ?_)
    refine ⟨s.heap.objs.size :: a :: hAddr A, fun i v => vs[i]? = some v, fun i h => h.IsTupleIter s.heap.objs.size a i ∧ h.IsTuple a vs ∧ HOk hm A h, ?_, ⟨⟨_, Heap.get?_push_size _ rfl, rfl, rfl⟩, hl.push _, hk.at fun b hb o e => Heap.get?_push_of_some _ e⟩, fps lt nf, fin q lt nf, fun i h st => ?_, hp, fun b hb => ?_⟩
    · rw [lz]; exact walks_tuple _ a (Nat.ne_of_lt lt) (fun q => Nat.lt_irrefl _ (hk.lt _ q)) vs
    · obtain ⟨⟨o, e1, e2, e3⟩, _⟩ := st; exact ⟨o, _, e1, e2, by decide, fun _ vs k q => by rw [e3] at q; cases q⟩
    · rcases List.mem_cons.mp hb with z | z
      · exact .inl z
      · rcases List.mem_cons.mp z with z | z
        · exact .inr (.inr (by rw [z]))
        · exact .inr (.inl z)
  | _ => cases e

theorem rangeL_get {a b : Int} {i : Nat} {z : Int} (h : (rangeL a b)[i]? = some z) : z = a + i := by
  unfold rangeL at h
  rw [List.getElem?_map] at h
  obtain ⟨j, h1, h2⟩ := Option.map_eq_some_iff.mp h
  obtain ⟨lt, e⟩ := List.getElem?_eq_some_iff.mp h1
  rw [List.getElem_range] at e
  rw [← h2, e]
theorem rangeL_length (a b : Int) : (rangeL a b).length = (b - a).toNat := by unfold rangeL; simp

theorem iterx_range {a b : Int} {r : Addr} {t1 t2 t3 : Tok} (C : CSit G dep hm A s.heap hid fr envs) (hh : hm = false) (hr : IsRange s.heap r a b 1 t1 t2 t3) (h1 : -(lim : Int) < a) (h2 : a < lim) (h3 : -(lim : Int) < b) (h4 : b < lim) {Q : Value → Shared → Prop}
    (h : ∀ I h', (∀ b o, s.heap.get? b = some o → h'.get? b = some o) → s.heap.get? I = none → IterX G A hid fr I ((rangeL a b).map fun i => .d (.int i)) s.heap h' .none → Q (.ref I) { s with heap := h' }) : wpAny (model G.prog G.w) A (pyIter (.ref r)) Q E s := by
  have hn : A.handled = none := by rcases C.hok with q | q; exact q.2; rw [hh] at q; cases q.1
  rw [lim_eq] at h1 h2 h3 h4
  have hsm : Builtin.Range.small a b 1 = true := small_one (by omega) (by omega) (by omega) (by omega)
  have hz : Builtin.Range.rangeSize a b 1 = (((b - a).toNat : Nat) : Int) := by rw [rangeSize_one]; split <;> omega
  refine wpAny_pyIter_range hr hsm (h _ _ (fun b o e => Heap.get?_push_of_some _ e) (size_none _) ?_)
  refine ⟨[s.heap.objs.size], fun i v => ∃ t, v = .int (a + (i : Int)) t, fun i h => IsRangeIter h s.heap.objs.size (a + (i : Nat) * 1) (((b - a).toNat : Int) - (i : Nat)) 1, ?_, ?_, fun b hb => ?_, fun i v hp u hu => ?_, fun i h st => ⟨_, _, st, rfl, by decide, fun _ vs k q => by cases q⟩, fun u hu => ?_, fun b hb => .inl (List.mem_singleton.mp hb)⟩
  · rw [List.length_map, rangeL_length]; exact LCg.range_walks hn a _
  · show IsRangeIter _ _ _ _ _; rw [hz]; simpa using Heap.get?_push_size _ rfl
  · rw [List.mem_singleton.mp hb]
    refine ⟨?_, fun q => C.dom.fresh (size_none _) (C.sub _ q)⟩
    show s.heap.objs.size < (s.heap.push _).objs.size
    rw [Heap.size_push]; exact Nat.lt_succ_self _
  · obtain ⟨t, rfl⟩ := hp
    rw [List.getElem?_map] at hu
    obtain ⟨z, e1, rfl⟩ := Option.map_eq_some_iff.mp hu
    rw [rangeL_get e1]
    exact Rd.int _ _ _ _
  · obtain ⟨z, _, rfl⟩ := List.mem_map.mp hu
    exact .inl ⟨_, rfl⟩

theorem itemsV_ok {us : List V} (C : CSit G dep hm A s.heap hid fr envs) (D1 : Dom hid h₁) (r : TR G.ca h₁ hid fr s.heap v u) (e : itemsV u = some us) {Q : Value → Shared → Prop}
    (h : ∀ I h', (∀ b o, s.heap.get? b = some o → h'.get? b = some o) → s.heap.get? I = none → IterX G A hid fr I us s.heap h' v → Q (.ref I) { s with heap := h' }) : wpAny (model G.prog G.w) A (pyIter v) Q E s := by
  have plain : ∀ {x : PyData}, Rd hid s.heap v x → (seqOf x).map (·.map V.d) = some us → wpAny (model G.prog G.w) A (pyIter v) Q E s := fun {x} r e => by
    obtain ⟨xs, e1, rfl⟩ := Option.map_eq_some_iff.mp e
    refine iterx_seq C r C.sub e1 (by simp) (fun i w y u e2 e3 r => ?_) (fun u hu => ?_) h
    · rw [List.getElem?_map, e2] at e3
      cases e3; exact r
    · obtain ⟨z, _, rfl⟩ := List.mem_map.mp hu; exact .inl ⟨_, rfl⟩
  cases u with
  | d x => exact plain r e
  | own x => exact plain (r.keep D1 C.dom rfl) e
  | brw x =>
    obtain ⟨xs, e1, rfl⟩ := Option.map_eq_some_iff.mp e
    refine iterx_seq C (hd := fr) r (fun _ b => b) e1 (by simp) (fun i w y u e2 e3 r => ?_) (fun u hu => ?_) h
    · rw [List.getElem?_map, e2] at e3
      cases e3; exact low_TR C.dom r
    · obtain ⟨z, _, rfl⟩ := List.mem_map.mp hu
      unfold low
      split
      · exact .inl ⟨_, rfl⟩
      · exact .inr ⟨_, rfl⟩
  | ot l => cases e
  | exc c => cases e

theorem src_ok (O : G.Ok) (IH : SE G Φ dep n) {iter : Expr} {src : Src} {K : List V → Prop} {Q : Value → Shared → Prop} (lo : lowSrcWith (lowE n cx) cx iter = some src) (S : Sit G dep cx env hm A s.heap hid fr envs ρ) (w : wpSrc Φ hm src ρ K X)
    (k : ∀ I us s₁ h', Ext fr s.heap s₁.heap → Same s s₁ → (∀ b o, s₁.heap.get? b = some o → h'.get? b = some o) → s₁.heap.get? I = none → (∃ sv, IterX G A hid fr I us s₁.heap h' sv ∧ ((∃ e, src = .dat e) ∨ sv = .none)) → us.length ≤ 2 * lim → K us → Q (.ref I) { s₁ with heap := h' }) (t : Thrown G fr s X E) :
    wpAny (model G.prog G.w) A (eval iter env) (fun x s₁ => wpAny (model G.prog G.w) A (pyIter x) Q E s₁) E s := by
  have dat : ∀ {e}, lowE n cx iter = some e → (∃ e, src = .dat e) → wpSrc Φ hm (.dat e) ρ K X → wpAny (model G.prog G.w) A (eval iter env) (fun x s₁ => wpAny (model G.prog G.w) A (pyIter x) Q E s₁) E s := fun {e} lo hd w => by
    refine IH _ _ _ _ _ _ _ _ _ _ _ _ _ _ _ lo S w (fun v1 s₁ u1 r1 x1 m1 w1 => ?_) t
    obtain ⟨us, e1, w1⟩ := got_some w1
    exact itemsV_ok (S.ext x1).csit S.dom r1 e1 fun I h' q1 q2 q3 => k I us s₁ h' x1 m1 q1 q2 ⟨_, q3, .inl hd⟩ (by have := w1.1; omega) w1.2
  unfold lowSrcWith at lo
  split at lo
  · rename_i x xp a p
    split at lo
    · rename_i q
      rw [beq_iff_eq] at q; subst q
      split at lo
      · rename_i hg
        obtain ⟨e, h1, rfl⟩ := Option.map_eq_some_iff.mp lo
        refine call_eq (name_built O S hg (by decide) boot_range (with_ok (.inr ⟨_, rfl⟩) (star_of_low h1) rfl (args_cons (IH _ _ _ _ _ _ _ _ _ _ _ _ _ _ _ h1 S w (fun v1 s₁ u1 r1 x1 m1 w1 => args_nil ?_) t) (star_of_low h1)))) ⟨_, _, rfl⟩
        cases u1 with
        | d z => cases z with
          | int i =>
            obtain ⟨t1, rfl⟩ := Rd.int_inv r1
            refine call_range_1 ?_
            have x2 : Ext fr s₁.heap (s₁.heap.push { cls := .type "range", data := .fields #[.int 0 s₁.toks, .int i t1, .int 1 (s₁.toks + 1)] }) := ext_push _ _ _
            refine iterx_range (s := { s₁ with heap := _, toks := _ }) ((S.ext x1).ext x2).csit w1.1 (IsRange.new _ _ _ _ _ _ _) (by rw [lim_eq]; decide) (by rw [lim_eq]; decide) w1.2.1 w1.2.2.1 fun I h' q1 q2 q3 => ?_
            refine k I _ { s₁ with heap := _, toks := _ } h' (x1.trans x2) (m1.trans ⟨rfl, rfl⟩) q1 q2 ⟨_, q3, .inr rfl⟩ ?_ w1.2.2.2
            have := w1.2.2.1
            rw [lim_eq] at this ⊢
            rw [List.length_map, rangeL_length]; omega
          | _ => exact w1.elim
        | _ => exact w1.elim
      · cases lo
    · obtain ⟨e, h1, rfl⟩ := Option.map_eq_some_iff.mp lo; exact dat h1 ⟨_, rfl⟩ w
  · rename_i x xp a b p
    split at lo
    · rename_i q
      rw [beq_iff_eq] at q; subst q
      split at lo
      · rename_i hg
        obtain ⟨e, h1, lo⟩ := Option.bind_eq_some_iff.mp lo
        obtain ⟨e2, h2, rfl⟩ := Option.map_eq_some_iff.mp lo
        refine call_eq (name_built O S hg (by decide) boot_range (with_ok (.inr ⟨_, rfl⟩) (star_of_low h1) (by rw [star_of_low h2]; rfl) (args_cons (IH _ _ _ _ _ _ _ _ _ _ _ _ _ _ _ h1 S w (fun v1 s₁ u1 r1 x1 m1 w1 =>
          args_cons (IH _ _ _ _ _ _ _ _ _ _ _ _ _ _ _ h2 (S.ext x1) w1 (fun v2 s₂ u2 r2 x2 m2 w2 => args_nil ?_) (t.from x1 m1)) (star_of_low h2)) t) (star_of_low h1)))) ⟨_, _, rfl⟩
        have w3 : ∃ i j, u1 = .d (.int i) ∧ u2 = .d (.int j) ∧ hm = false ∧ -(lim : Int) < i ∧ i < lim ∧ -(lim : Int) < j ∧ j < lim ∧ K ((rangeL i j).map fun i => .d (.int i)) := by
          split at w2
          · exact ⟨_, _, rfl, rfl, w2⟩
          · exact w2.elim
        obtain ⟨i, j, rfl, rfl, w3⟩ := w3
        obtain ⟨t1, rfl⟩ := Rd.int_inv r1
        obtain ⟨t2, rfl⟩ := Rd.int_inv r2
        refine call_range_2 ?_
        have x3 : Ext fr s₂.heap (s₂.heap.push { cls := .type "range", data := .fields #[.int i t1, .int j t2, .int 1 s₂.toks] }) := ext_push _ _ _
        refine iterx_range (s := { s₂ with heap := _, toks := _ }) (((S.ext x1).ext x2).ext x3).csit w3.1 (IsRange.new _ _ _ _ _ _ _) w3.2.1 w3.2.2.1 w3.2.2.2.1 w3.2.2.2.2.1 fun I h' q1 q2 q3 => ?_
        refine k I _ { s₂ with heap := _, toks := _ } h' ((x1.trans x2).trans x3) ((m1.trans m2).trans ⟨rfl, rfl⟩) q1 q2 ⟨_, q3, .inr rfl⟩ ?_ w3.2.2.2.2.2
        have b1 := w3.2.1
        have b2 := w3.2.2.2.2.1
        rw [lim_eq] at b1 b2 ⊢
        rw [List.length_map, rangeL_length]; omega
      · cases lo
    · obtain ⟨e, h1, rfl⟩ := Option.map_eq_some_iff.mp lo; exact dat h1 ⟨_, rfl⟩ w
  all_goals first | (obtain ⟨e, h1, rfl⟩ := Option.map_eq_some_iff.mp lo; exact dat h1 ⟨_, rfl⟩ w) | cases lo
end
end TC

namespace TC
open PySem PySem.W PyProof.Rows

/-! Names bound. -/

/-- the places where a block's own names lie: its namespace, its own cells -/
structure Fm (env : Env) (own : List (Str × Addr)) (h : Heap) : Prop where
  kf : env.scope.kind = .function
  ns : ∃ m, h.Ns env.locals m
  cell : ∀ x c, own.lookup x = some c → ∃ v, h.IsCell c v
  look : ∀ x c, own.lookup x = some c → env.cells.lookup x = some c
  inj : ∀ y c, env.cells.lookup y = some c → ∀ x, own.lookup x = some c → x = y
noncomputable def placesOf (env : Env) (own : List (Str × Addr)) : List Addr := env.locals :: own.map (·.2)
/-- own: one cell for each name -/
noncomputable def OwnUniq (own : List (Str × Addr)) : Prop := ∀ x c, (x, c) ∈ own → own.lookup x = some c

theorem ns_data {h : Heap} {a : Addr} {m : Str → Option Value} (n : h.Ns a m) : ∃ o es ep, h.get? a = some o ∧ o.data = .dict es ep := by
  obtain ⟨o, es, ep, ho, hd, _⟩ := n; exact ⟨o, es, ep, ho, hd⟩
theorem ns_off_cell {h : Heap} {a c : Addr} {m : Str → Option Value} {v : Option Value} (n : h.Ns a m) (q : h.IsCell c v) : c ≠ a := fun e => by
  obtain ⟨o, es, ep, ho, hd⟩ := ns_data n
  obtain ⟨o', ho', hd'⟩ := q
  rw [e, ho] at ho'; cases ho'; rw [hd] at hd'; cases hd'
theorem Fm.dom {env : Env} {own : List (Str × Addr)} {h : Heap} (F : Fm env own h) (U : OwnUniq own) : ∀ b ∈ placesOf env own, ∃ o, h.get? b = some o ∧ NT o := fun b hb => by
  rcases List.mem_cons.mp hb with rfl | hb
  · obtain ⟨m, n⟩ := F.ns
    obtain ⟨o, es, ep, ho, hd⟩ := ns_data n
    exact ⟨o, ho, fun _ vs k q => by rw [hd] at q; cases q⟩
  · obtain ⟨⟨x, c⟩, hm, rfl⟩ := List.mem_map.mp hb
    obtain ⟨v, o, ho, hd⟩ := F.cell x c (U x c hm)
    exact ⟨o, ho, fun _ vs k q => by rw [hd] at q; cases q⟩

section
variable {G : Gl} {env : Env} {hm : Bool} {A : Around} {s s₁ s₂ : Shared} {E : Value → Shared → Prop} {v : Value} {own : List (Str × Addr)} {M : Model}

/-- where a name may be bound -/
noncomputable def Bindable (env : Env) (own : List (Str × Addr)) (x : Str) : Prop := env.kindOf x = some .local ∨ (env.kindOf x = some .cell ∧ ∃ c, own.lookup x = some c)

theorem store_ok {x : Str} {Q : Unit → Shared → Prop} (F : Fm env own s.heap) (hx : Bindable env own x)
    (h : ∀ h' tk, Fm env own h' → (∀ b o, b ∉ placesOf env own → s.heap.get? b = some o → h'.get? b = some o) → varAt env h' x v → (∀ y w, y ≠ x → varAt env s.heap y w → varAt env h' y w) → Q () { s with heap := h', toks := tk }) :
    wpAny M A (storeName env x v) Q E s := by
  obtain ⟨m, n⟩ := F.ns
  rcases hx with hl | ⟨hl, c, hc⟩
  · refine wpAny_storeName_local hl n (fun h' n' sb => h h' _ ?_ (fun b o hb e => sb.extBut b o (fun q => hb (by rw [q]; exact .head _)) e) (.inl ⟨hl, _, n', by simp⟩) fun y w ne a => ?_) (by rw [F.kf]; rfl)
    · refine ⟨F.kf, ⟨_, n'⟩, fun y c e => ?_, F.look, F.inj⟩
      obtain ⟨w, q⟩ := F.cell y c e
      exact ⟨w, q.sameBut sb (ns_off_cell n q)⟩
    · rcases a with ⟨k, m2, n2, hv⟩ | ⟨k, c, hc, q⟩
      · refine .inl ⟨k, _, n', ?_⟩
        simp only [if_neg ne]
        obtain ⟨o1, es1, ep1, a1, a2, _, a3⟩ := n
        obtain ⟨o2, es2, ep2, b1, b2, _, b3⟩ := n2
        rw [a1] at b1; cases b1
        rw [a2] at b2; cases b2
        rw [← a3, b3, hv]
      · exact .inr ⟨k, c, hc, q.sameBut sb (ns_off_cell n q)⟩
  · obtain ⟨v0, q0⟩ := F.cell x c hc
    have off := ns_off_cell n q0
    refine wpAny_storeName_cell F.kf hl (F.look x c hc) q0 fun h' q' sb => h h' s.toks ?_ (fun b o hb e => sb.extBut b o (fun q => hb (by rw [q]; exact .tail _ (List.mem_map.mpr ⟨(x, c), mem_of_lookup hc, rfl⟩))) e) (.inr ⟨.inl hl, c, F.look x c hc, q'⟩) fun y w ne a => ?_
    · refine ⟨F.kf, ⟨m, n.sameBut sb (Ne.symm off)⟩, fun y c' e => ?_, F.look, F.inj⟩
      by_cases z : c' = c
      · subst z; exact ⟨_, q'⟩
      · obtain ⟨w, q⟩ := F.cell y c' e
        exact ⟨w, q.sameBut sb z⟩
    · rcases a with ⟨k, m2, n2, hv⟩ | ⟨k, c', hc', q⟩
      · exact .inl ⟨k, m2, n2.sameBut sb (Ne.symm off), hv⟩
      · refine .inr ⟨k, c', hc', q.sameBut sb fun z => ne ?_⟩
        subst z
        exact (F.inj y c' hc' x hc).symm

/-- a tuple taken apart, under a handled exception too -/
theorem unpack_ok {t : Addr} {items : Array Value} {n : Nat} {targets : List (Bool × (Value → Sem Unit))} {Q : Unit → Shared → Prop} (hk : HOk hm A s.heap) (ho : s.heap.get? t = some (tupObj items n)) (hn : targets.length = items.size) (hs : targets.findIdx? (·.1) = none)
    (h : ∀ h', (∀ b o, s.heap.get? b = some o → h'.get? b = some o) → wpAny (model G.prog G.w) A (assignInOrder (targets.map (·.2)) items.toList) Q E { s with heap := h' }) : wpAny (model G.prog G.w) A (unpack (.ref t) targets) Q E s := by
  have ht : s.heap.IsTuple t items := ⟨_, ho, rfl, n, rfl⟩
  have hlt : t ≠ s.heap.objs.size := Nat.ne_of_lt (Heap.lt_size ho)
  unfold unpack
  rw [hn, hs]
  refine wpAny_bind (wpAny_holding ?_)
  unfold unpackItems
  refine wpAny_bind ?_
  unfold notIterableAtAll
  refine wpAny_bind (wpAny_specialOf ht.typeIs F.slot_tuple_iter.lookup ?_)
  refine wpAny_pure ?_
  simp only [Bool.false_eq_true, if_false]
  refine wpAny_bind (wpAny_holding (wpAny_pyIter_tuple ht ?_))
  refine wpAny_bind (wpAny_holding (wpAny_draw_tuple hlt items.size 0 _ _ ⟨_, Heap.get?_push_size _ rfl, rfl, rfl⟩ (ht.push _) (by omega) fun h₁ hit₁ hs₁ => ?_))
  have hall : List.take items.size (List.drop 0 items.toList) = items.toList := by
    rw [List.drop_zero]; exact List.take_of_length_le (by simp)
  rw [hall]
  rw [if_neg (by simp)]
  have ht₁ : h₁.IsTuple t items := (ht.push _).extBut hs₁.extBut hlt
  have old : ∀ b o, s.heap.get? b = some o → h₁.get? b = some o := fun b o e => hs₁.extBut b o (Nat.ne_of_lt (Heap.lt_size e)) (Heap.get?_push_of_some _ e)
  refine wpAny_bind (wpAny_holding (tuple_end (s := { s with heap := h₁ }) (hk.at fun b hb o e => old b o e) (fun e q z => ?_) hit₁ ht₁ (by simp) fun h₂ he₂ => ?_))
  · have := hk.lt e (by rw [hAddr_of q]; simp)
    rw [z] at this; exact Nat.lt_irrefl _ this
  simp only [Option.isSome_none, Bool.false_eq_true, if_false]
  exact wpAny_pure (h h₂ fun b o e => he₂ b o (Nat.ne_of_lt (Heap.lt_size e)) (old b o e))

theorem bind_names {Q : Unit → Shared → Prop} : ∀ {xs : List Str} {ps : List Pos} {vs : List Value} {s : Shared}, xs.length = vs.length → xs.length = ps.length → xs.Nodup → Fm env own s.heap → (∀ x ∈ xs, Bindable env own x) →
    (∀ h' tk, Fm env own h' → (∀ b o, b ∉ placesOf env own → s.heap.get? b = some o → h'.get? b = some o) → (∀ (i : Nat) x w, xs[i]? = some x → vs[i]? = some w → varAt env h' x w) → (∀ y w, y ∉ xs → varAt env s.heap y w → varAt env h' y w) → Q () { s with heap := h', toks := tk }) →
    wpAny M A (assignInOrder ((xs.zip ps).map fun p => assign (.Name p.1 p.2) env) vs) Q E s
  | [], ps, [], s, _, _, _, F, _, h => wpAny_pure (h s.heap s.toks F (fun _ _ _ e => e) (fun i x w e => by cases e) fun _ _ _ a => a)
  | x :: xs, p :: ps, v :: vs, s, l, l2, nd, F, hb, h => by
    obtain ⟨nx, nd⟩ := List.nodup_cons.mp nd
    refine wpAny_bind (wpAny_holding (wpAny_bind (wpAny_standAt (wpAny_bindName (store_ok F (hb x (.head _)) fun h1 tk F1 k1 a1 o1 => ?_)))))
    refine bind_names (xs := xs) (ps := ps) (vs := vs) (s := { s with heap := h1, toks := tk }) (by simpa using l) (by simpa using l2) nd F1 (fun y hy => hb y (.tail _ hy)) fun h2 tk2 F2 k2 a2 o2 => ?_
    refine h h2 tk2 F2 (fun b o hb e => k2 b o hb (k1 b o hb e)) (fun i y w e1 e2 => ?_) fun y w hy a => o2 y w (fun q => hy (.tail _ q)) (o1 y w (fun q => hy (q ▸ .head _)) a)
    cases i with
    | zero => cases e1; cases e2; exact o2 x v nx a1
    | succ i => exact a2 i y w (by simpa using e1) (by simpa using e2)
  | [], _, _ :: _, s, l, _, _, _, _, _ => by cases l
  | _ :: _, _, [], s, l, _, _, _, _, _ => by cases l
  | _ :: _, [], _ :: _, s, _, l, _, _, _, _ => by cases l
end
end TC

namespace TC
open PySem PySem.W PyProof.Rows

theorem names_of : ∀ {es : List Expr} {l : List Str}, es.foldr (fun e r => match e, r with | .Name x _, some l => some (x :: l) | _, _ => none) (some []) = some l → ∃ ps : List Pos, l.length = ps.length ∧ es = (l.zip ps).map fun p => .Name p.1 p.2
  | [], l, h => by cases h; exact ⟨[], rfl, rfl⟩
  | e :: es, l, h => by
    rw [List.foldr_cons] at h
    split at h
    · rename_i x p l' q
      cases h
      obtain ⟨ps, h1, h2⟩ := names_of q
      exact ⟨p :: ps, by simp [h1], by simp [h2]⟩
    · cases h
theorem assignEach_names {env : Env} : ∀ (l : List (Str × Pos)), (assignEach (l.map fun p => Expr.Name p.1 p.2) env) = l.map fun p => (false, assign (.Name p.1 p.2) env)
  | [] => rfl
  | p :: l => by
    rw [List.map_cons, List.map_cons, ← assignEach_names l]
    rfl
theorem no_star {α : Type} : ∀ (l : List (Str × Pos)) (f : Str × Pos → α), (l.map fun p => (false, f p)).findIdx? (·.1) = none
  | [], _ => rfl
  | p :: l, f => by rw [List.map_cons, List.findIdx?_cons]; simp [no_star l f]

theorem tgt_tuple {es : List Expr} {c : Nat} {p : Pos} {topt : Option Nat} {xs : List Str} (h : tgtNames (.Tuple es c p) = some (topt, xs)) : topt = some xs.length ∧ ∃ ps : List Pos, xs.length = ps.length ∧ es = (xs.zip ps).map fun p => .Name p.1 p.2 := by
  obtain ⟨l, h1, h2⟩ := Option.map_eq_some_iff.mp h
  cases h2
  exact ⟨rfl, names_of h1⟩

section
variable {G : Gl} {dep n : Nat} {env : Env} {hm : Bool} {A : Around} {s : Shared} {E : Value → Shared → Prop} {v : Value} {own : List (Str × Addr)} {hid fr : List Addr} {u : V} {h₁ : Heap}

theorem parts_ok {n : Nat} {us : List V} (D : Dom hid s.heap) (r : TR G.ca h₁ hid fr s.heap v u) (nd : ∀ l, u ≠ .ot l) (e : partsV u n = some us) : ∃ t items m, v = .ref t ∧ s.heap.get? t = some (tupObj items m) ∧ TRs G.ca h₁ hid fr s.heap items.toList us ∧ us.length = n := by
  have trs : ∀ {vs : List Value} {xs : List PyData}, RdAll hid s.heap vs xs → TRs G.ca h₁ hid fr s.heap vs (xs.map .d) := fun {vs} => by
    induction vs with
    | nil => intro xs q; cases q; trivial
    | cons w ws ih => intro xs q; obtain ⟨y, ys, rfl, a, b⟩ := q.split; exact ⟨a, ih b⟩
  have trl : ∀ {vs : List Value} {xs : List PyData}, RdAll fr s.heap vs xs → TRs G.ca h₁ hid fr s.heap vs (xs.map low) := fun {vs} => by
    induction vs with
    | nil => intro xs q; cases q; trivial
    | cons w ws ih => intro xs q; obtain ⟨y, ys, rfl, a, b⟩ := q.split; exact ⟨low_TR D a, ih b⟩
  unfold partsV at e
  split at e
  · rename_i l; exact absurd rfl (nd l)
  · split at e
    · rename_i q; cases e
      obtain ⟨t, vs, m, h1, _, h2, h3⟩ := Rd.tuple_inv r
      exact ⟨t, vs, m, h1, h2, trs h3, by simpa using q⟩
    · cases e
  · split at e
    · rename_i q; cases e
      obtain ⟨t, vs, m, h1, _, h2, h3⟩ := Rd.tuple_inv r
      exact ⟨t, vs, m, h1, h2, trl h3, by simpa using q⟩
    · cases e
  · cases e

theorem tgt_ok {t : Expr} {topt : Option Nat} {xs : List Str} {us : List V} {hr : Heap} (hk : HOk hm A s.heap) (xr : Ext fr hr s.heap) (sub : ∀ b ∈ fr, b ∈ hid) (D : Dom hid hr) (ht : tgtNames t = some (topt, xs)) (nd : xs.Nodup) (F : Fm env own s.heap) (hb : ∀ x ∈ xs, Bindable env own x)
    (r : TR G.ca h₁ hid fr hr v u) (hu : (topt = none ∧ us = [u]) ∨ ∃ n, topt = some n ∧ partsV u n = some us) (no : ∀ l, u ≠ .ot l) {Q : Unit → Shared → Prop}
    (h : ∀ h' tk vs, Fm env own h' → (∀ b o, b ∉ placesOf env own → s.heap.get? b = some o → h'.get? b = some o) → (∀ (i : Nat) x w, xs[i]? = some x → vs[i]? = some w → varAt env h' x w) → (∀ y w, y ∉ xs → varAt env s.heap y w → varAt env h' y w) →
      TRs G.ca h₁ hid fr hr vs us → us.length = xs.length → Q () { s with heap := h', toks := tk }) : wpAny (model G.prog G.w) A (assign t env v) Q E s := by
  cases t with
  | Name x p =>
    cases ht
    rcases hu with ⟨_, rfl⟩ | ⟨n, q, _⟩
    · refine wpAny_bind (wpAny_standAt (wpAny_bindName (store_ok F (hb x (.head _)) fun h1 tk F1 k1 a1 o1 => ?_)))
      refine h h1 tk [v] F1 k1 (fun i y w e1 e2 => ?_) (fun y w hy a => o1 y w (fun q => hy (q ▸ .head _)) a) ⟨r, trivial⟩ rfl
      cases i with
      | zero => cases e1; cases e2; exact a1
      | succ i => cases e1
    · cases q
  | Tuple es c p =>
    obtain ⟨rfl, ps, l1, rfl⟩ := tgt_tuple ht
    rcases hu with ⟨q, _⟩ | ⟨n, q, e⟩
    · cases q
    · cases q
      obtain ⟨t, items, m, rfl, ho, q1, q2⟩ := parts_ok (s := { s with heap := hr }) D r no e
      have q3 := q1.length
      have ho' : s.heap.get? t = some (tupObj items m) := (xr t _ ho).1 fun q => D.notup t (sub t q) _ ho rfl _ _ rfl
      rw [arm_assign_Tuple, assignEach_names]
      refine wpAny_bind (wpAny_standAt (unpack_ok hk ho' (by simp [l1]; rw [Array.length_toList] at q3; omega) (no_star _ _) fun h1 k1 => ?_))
      rw [List.map_map]
      have Fm1 : Fm env own h1 := by
        obtain ⟨m', n'⟩ := F.ns
        exact ⟨F.kf, ⟨m', n'.keeps k1⟩, fun x c e => let ⟨w, z⟩ := F.cell x c e; ⟨w, z.keeps k1⟩, F.look, F.inj⟩
      refine bind_names (s := { s with heap := h1 }) (vs := items.toList) (by rw [q3, q2]) l1 nd Fm1 hb fun h2 tk F2 k2 a2 o2 => ?_
      refine h h2 tk items.toList F2 (fun b o hb e => k2 b o hb (k1 b o e)) a2 (fun y w hy a => o2 y w hy ?_) q1 q2
      rcases a with ⟨k, m', n', hv⟩ | ⟨k, c, hc, q⟩
      · exact .inl ⟨k, m', n'.keeps k1, hv⟩
      · exact .inr ⟨k, c, hc, q.keeps k1⟩
  | _ => cases ht
end

/-! The block of a comprehension. -/
theorem relab_lookup (kd : List (Str × NameKind)) : ∀ (names : List (Str × NameKind)) (x : Str), (relab kd names).lookup x = match names.lookup x with
    | some .free => if kd.lookup x = some .cell then some .cell else some .free
    | o => o
  | [], x => rfl
  | (y, k) :: r, x => by
    have ih := relab_lookup kd r x
    show (List.lookup x ((if (k == .free && kd.lookup y == some .cell) = true then (y, .cell) else (y, k)) :: relab kd r)) = _
    cases hx : x == y with
    | true =>
      obtain rfl := beq_iff_eq.mp hx
      by_cases c : (k == NameKind.free && kd.lookup x == some .cell) = true
      · rw [if_pos c]
        simp only [Bool.and_eq_true, beq_iff_eq] at c
        obtain ⟨rfl, c⟩ := c
        simp [List.lookup_cons, c]
      · rw [if_neg c]
        simp only [Bool.and_eq_true, beq_iff_eq] at c
        cases k <;> simp [List.lookup_cons]
        intro q; exact absurd ⟨rfl, q⟩ c
    | false =>
      have e1 : List.lookup x ((y, k) :: r) = r.lookup x := by rw [List.lookup_cons, hx]
      rw [e1, ← ih]
      split <;> rw [List.lookup_cons, hx]
theorem cellsFrom_app : ∀ (names : List (Str × NameKind)) (n : Nat) (acc : List (Str × Addr)), cellsFrom n names acc = cellsFrom n names [] ++ acc
  | [], _, _ => rfl
  | (x, k) :: r, n, acc => by
    unfold cellsFrom
    split
    · rw [cellsFrom_app r (n + 1) ((x, n) :: acc), cellsFrom_app r (n + 1) [(x, n)]]; simp
    · exact cellsFrom_app r n acc
theorem cellsFrom_mem : ∀ (names : List (Str × NameKind)) (n : Nat) (x : Str) (c : Addr), (x, c) ∈ cellsFrom n names [] → (x, NameKind.cell) ∈ names
  | [], _, _, _, h => by cases h
  | (y, k) :: r, n, x, c, h => by
    unfold cellsFrom at h
    split at h
    · rename_i q
      rw [cellsFrom_app] at h
      rcases List.mem_append.mp h with h | h
      · exact .tail _ (cellsFrom_mem r _ x c h)
      · simp only [List.mem_singleton, Prod.mk.injEq] at h
        rw [h.1, beq_iff_eq.mp q]; exact .head _
    · exact .tail _ (cellsFrom_mem r _ x c h)
theorem cellsFrom_some : ∀ (names : List (Str × NameKind)) (n : Nat) (x : Str), (x, NameKind.cell) ∈ names → ∃ c, (x, c) ∈ cellsFrom n names []
  | (y, k) :: r, n, x, h => by
    unfold cellsFrom
    rcases List.mem_cons.mp h with e | h
    · cases e
      rw [if_pos (by rfl), cellsFrom_app]
      exact ⟨n, List.mem_append_right _ (.head _)⟩
    · split
      · rw [cellsFrom_app]
        obtain ⟨c, hc⟩ := cellsFrom_some r (n + 1) x h
        exact ⟨c, List.mem_append_left _ hc⟩
      · exact cellsFrom_some r n x h
theorem lookup_mem_nodup {α : Type} : ∀ {l : List (Str × α)}, (l.map (·.1)).Nodup → ∀ {x : Str} {c : α}, (x, c) ∈ l → l.lookup x = some c
  | (y, d) :: r, nd, x, c, h => by
    obtain ⟨n1, n2⟩ := List.nodup_cons.mp nd
    rw [List.lookup_cons]
    rcases List.mem_cons.mp h with e | h
    · cases e; simp
    · cases hx : x == y with
      | true => rw [beq_iff_eq.mp hx] at h; exact absurd (List.mem_map.mpr ⟨_, h, rfl⟩) n1
      | false => exact lookup_mem_nodup n2 h
theorem cellsFrom_names : ∀ (names : List (Str × NameKind)) (n : Nat), (cellsFrom n names []).map (·.1) = ((names.filter (·.2 == .cell)).map (·.1)).reverse
  | [], _ => rfl
  | (x, k) :: r, n => by
    unfold cellsFrom
    split
    · rename_i q; rw [cellsFrom_app, List.map_append, cellsFrom_names r]; simp [q]
    · rename_i q; rw [cellsFrom_names r]; simp [q]
theorem cellsFrom_uniq {names : List (Str × NameKind)} (nd : (names.map (·.1)).Nodup) (n : Nat) : OwnUniq (cellsFrom n names []) := fun x c h => by
  refine lookup_mem_nodup ?_ h
  rw [cellsFrom_names]
  have h1 : ((names.filter (·.2 == .cell)).map (·.1)).Nodup := List.Nodup.sublist (List.Sublist.map _ List.filter_sublist) nd
  exact (List.reverse_perm _).nodup_iff.mpr h1
theorem clos_ok {env : Env} (f : Str × NameKind → List (Str × Addr) → Sem (ForInStep (List (Str × Addr))))
    (hf : ∀ name kind cells, f (name, kind) cells = if kind == .free then (do let a ← cellOf env name; pure (.yield ((name, a) :: cells))) else pure (.yield cells)) :
    ∀ (names : List (Str × NameKind)) (acc : List (Str × Addr)), (∀ x, (x, NameKind.free) ∈ names → ∃ c, env.cells.lookup x = some c) → ∃ cl, (forIn names acc f : Sem _) = pure cl ∧ (∀ x, ((x, NameKind.free) ∈ names ∨ acc.lookup x = env.cells.lookup x) → cl.lookup x = env.cells.lookup x) ∧
      ∀ x c, cl.lookup x = some c → acc.lookup x = some c ∨ env.cells.lookup x = some c
  | [], acc, _ => ⟨acc, by rw [List.forIn_nil], fun x h => h.elim (fun q => by cases q) id, fun x c e => .inl e⟩
  | (y, k) :: r, acc, h => by
    rw [List.forIn_cons, hf]
    cases q : (k == NameKind.free) with
    | true =>
      obtain rfl := beq_iff_eq.mp q
      obtain ⟨c, hc⟩ := h y (.head _)
      obtain ⟨cl, h1, h2, h3⟩ := clos_ok f hf r ((y, c) :: acc) fun x hx => h x (.tail _ hx)
      refine ⟨cl, ?_, fun x hx => h2 x ?_, fun x d e => ?_⟩
      · rw [if_pos rfl]
        unfold cellOf
        rw [hc]
        exact h1
      · by_cases z : x = y
        · right; rw [z, List.lookup_cons]; simp [hc]
        · rcases hx with hx | hx
          · rcases List.mem_cons.mp hx with e | e
            · cases e; exact absurd rfl z
            · exact .inl e
          · right; rw [List.lookup_cons, show (x == y) = false from Bool.eq_false_iff.mpr fun q => z (beq_iff_eq.mp q)]; exact hx
      · rcases h3 x d e with q | q
        · rw [List.lookup_cons] at q
          cases hx : x == y with
          | true => rw [hx] at q; cases q; rw [beq_iff_eq.mp hx]; exact .inr hc
          | false => rw [hx] at q; exact .inl q
        · exact .inr q
    | false =>
      obtain ⟨cl, h1, h2, h3⟩ := clos_ok f hf r acc fun x hx => h x (.tail _ hx)
      refine ⟨cl, ?_, fun x hx => h2 x (hx.imp_left fun hx => ?_), h3⟩
      · rw [if_neg (by decide)]
        exact h1
      · rcases List.mem_cons.mp hx with e | e
        · cases e; cases q
        · exact e
end TC

namespace TC
open PySem PySem.W PyProof.Rows

section
variable {G : Gl} {Φ : Call} {dep n : Nat} {cx cx' : Cx} {env : Env} {hm : Bool} {A : Around} {s s₁ s₂ : Shared} {hid fr : List Addr} {envs : List Env} {ρ : Rho} {X : Nat → Prop} {E : Value → Shared → Prop} {v : Value} {u : V} {h₁ : Heap}

theorem append_ok {prog : Program} {w : World} {l : Addr} {vs : Array Value} {n : Nat} {x : Value} {Q : Value → Shared → Prop} (ho : s.heap.get? l = some (listObj vs n)) (hsz : vs.size ≤ sizeLine)
    (h : ∀ h' n', h'.get? l = some (listObj (vs.push x) n') → (∀ b o, b ≠ l → s.heap.get? b = some o → h'.get? b = some o) → Q .none { s with heap := h' }) : wpAny (model prog w) A (call (.builtin "list.append") [.ref l, x]) Q E s := by
  have hl : s.heap.IsList l vs := ⟨_, ho, rfl, n, rfl⟩
  refine wpAny_call_entry slot_list_append hl.typeIs entry_list_append ?_ (args_list_append _ _)
  show wpAny _ _ (updateSeq l (·.push x) >>= fun _ => ret .none) _ _ s
  refine wpAny_bind ?_
  obtain ⟨n', hd'⟩ := Obj.data_mapSeq (o := listObj vs n) rfl (·.push x)
  refine wpAny_updateSeq ho rfl (wpAny_pure ⟨.none, rfl, h _ n' ?_ fun b o hb e => (Heap.get?_update_other _ _ (Ne.symm hb)).trans e⟩)
  have e := Heap.get?_update_self (Obj.mapSeq (·.push x)) ho (Obj.isFreed_of_seq hd')
  rw [e]
  have : Obj.mapSeq (·.push x) (listObj vs n) = listObj (vs.push x) n' := by
    unfold Obj.mapSeq at hd' ⊢
    simp only at hd' ⊢
    injection hd' with _ q
    rw [← q]
  rw [this]

theorem Ext.on {h h' h'' : Heap} {P : Addr → Prop} (x : Ext fr h h') (k : ∀ b o, P b → h'.get? b = some o → h''.get? b = some o) (p : ∀ b o, h.get? b = some o → P b) : Ext fr h h'' := fun b o e => by
  obtain ⟨x1, sl, x2⟩ := x b o e
  exact ⟨fun hb => k b o (p b o e) (x1 hb), sl, k b _ (p b o e) x2⟩

/-- a value that stood before the block was entered, seen from within -/
theorem TR.item {new : List Addr} {h h' hb : Heap} (hu : (∃ x, u = .d x) ∨ (∃ x, u = .brw x) ∨ ∃ c, u = .exc c) (r : TR G.ca hb hid fr h v u) (x : Ext fr h h') (sub : ∀ b ∈ fr, b ∈ hid) (nw : ∀ b ∈ new, h.get? b = none) (hb' : Heap) : TR G.ca hb' (new ++ hid) fr h' v u := by
  rcases hu with ⟨y, rfl⟩ | ⟨y, rfl⟩ | ⟨c, rfl⟩
  · exact Rd.move r fun b o hb e => ⟨fun q => (List.mem_append.mp q).elim (fun q => by rw [nw b q] at e; cases e) hb, (x b o e).1 fun q => hb (sub b q)⟩
  · exact Rd.ext r x fun _ b => b
  · obtain ⟨a, o, vs, C, rfl, h1, h2, h3, h4, h5⟩ := r
    obtain ⟨_, sl, q⟩ := x a o h2
    exact ⟨a, _, vs, C, rfl, h1, q, h3, h4, h5⟩
theorem TRs.get {ca : List Addr} {h : Heap} : ∀ {vs : List Value} {us : List V}, TRs ca h₁ hid fr h vs us → ∀ {i : Nat} {u : V}, us[i]? = some u → ∃ v, vs[i]? = some v ∧ TR ca h₁ hid fr h v u
  | [], [], _, i, u, e => by cases e
  | v :: vs, w :: us, ⟨a, b⟩, i, u, e => by
    cases i with
    | zero => cases e; exact ⟨v, rfl, a⟩
    | succ i => exact TRs.get b (i := i) (by simpa using e)
theorem low_kind (y : PyData) : (∃ x, low y = .d x) ∨ ∃ x, low y = .brw x := by
  unfold low; split
  · exact .inl ⟨_, rfl⟩
  · exact .inr ⟨_, rfl⟩
theorem parts_kind {n : Nat} {us : List V} (e : partsV u n = some us) (no : ∀ l, u ≠ .ot l) : ∀ w ∈ us, (∃ x, w = .d x) ∨ ∃ x, w = .brw x := by
  unfold partsV at e
  split at e
  · rename_i l; exact absurd rfl (no l)
  · split at e
    · cases e; intro w hw; obtain ⟨y, _, rfl⟩ := List.mem_map.mp hw; exact .inl ⟨y, rfl⟩
    · cases e
  · split at e
    · cases e; intro w hw; obtain ⟨y, _, rfl⟩ := List.mem_map.mp hw; exact low_kind y
    · cases e
  · cases e

theorem inner_inv {sc : Scope} {xs : List Str} (h : cx.inner sc xs = some cx') : sc.kind = .function ∧ (sc.names.map (·.1)).Nodup ∧ xs.Nodup ∧ (∀ x ∈ xs, sc.names.lookup x = some .local ∨ sc.names.lookup x = some .cell) ∧
    ∃ fs, freeOf cx.kd cx.tb cx.nx sc.names = some fs ∧ cx' = { cx with kd := relab cx.kd sc.names, tb := (xs.zip (List.range' cx.nx xs.length)) ++ fs, nx := cx.nx + xs.length, ow := [] } := by
  unfold Cx.inner at h
  split at h
  · rename_i c
    simp only [Bool.and_eq_true, beq_iff_eq, decide_eq_true_eq, List.all_eq_true, Bool.or_eq_true] at c
    obtain ⟨⟨⟨⟨c1, c2⟩, c3⟩, c4⟩, c5⟩ := c
    obtain ⟨fs, h1, h2⟩ := Option.map_eq_some_iff.mp h
    exact ⟨c1, c3, c4, fun x hx => (c5 x hx).2, fs, h1, h2.symm⟩
  · cases h
theorem freeOf_inv {kd : List (Str × NameKind)} {tb : List (Str × Nat)} {nx : Nat} : ∀ {names : List (Str × NameKind)} {fs : List (Str × Nat)}, freeOf kd tb nx names = some fs →
    (∀ x i, fs.lookup x = some i → tb.lookup x = some i ∧ i < nx ∧ (x, NameKind.free) ∈ names) ∧ ∀ x, (x, NameKind.free) ∈ names → kd.lookup x = some .cell ∨ kd.lookup x = some .free
  | [], fs, h => by cases h; exact ⟨fun x i e => (by cases e), fun x e => (by cases e)⟩
  | (y, k) :: r, fs, h => by
    by_cases hk : k = .free
    · subst hk
      replace h : (if (kd.lookup y == some .cell || kd.lookup y == some .free) = true then (tb.lookup y).bind fun i => if i < nx then (freeOf kd tb nx r).map ((y, i) :: ·) else none else none) = some fs := h
      split at h
      · rename_i c
        simp only [Bool.or_eq_true, beq_iff_eq] at c
        obtain ⟨i, h1, h2⟩ := Option.bind_eq_some_iff.mp h
        split at h2
        · rename_i lt
          obtain ⟨gs, h3, rfl⟩ := Option.map_eq_some_iff.mp h2
          obtain ⟨g1, g2⟩ := freeOf_inv h3
          refine ⟨fun x j e => ?_, fun x e => ?_⟩
          · rw [List.lookup_cons] at e
            cases hx : x == y with
            | true => rw [hx] at e; cases e; rw [beq_iff_eq.mp hx]; exact ⟨h1, lt, .head _⟩
            | false => rw [hx] at e; obtain ⟨a, b, c⟩ := g1 x j e; exact ⟨a, b, .tail _ c⟩
          · rcases List.mem_cons.mp e with e | e
            · cases e; exact c
            · exact g2 x e
        · cases h2
      · cases h
    · have h' : freeOf kd tb nx r = some fs := by cases k <;> first | exact h | exact absurd rfl hk
      obtain ⟨g1, g2⟩ := freeOf_inv h'
      refine ⟨fun x j e => let ⟨a, b, c⟩ := g1 x j e; ⟨a, b, .tail _ c⟩, fun x e => ?_⟩
      rcases List.mem_cons.mp e with e | e
      · cases e; exact absurd rfl hk
      · exact g2 x e
theorem zip_lookup {nx : Nat} : ∀ {xs : List Str} {m : Nat} {x : Str} {j : Nat}, (xs.zip (List.range' m xs.length)).lookup x = some j → ∃ i, xs[i]? = some x ∧ j = m + i
  | [], m, x, j, e => by cases e
  | y :: xs, m, x, j, e => by
    rw [List.length_cons, List.range'_succ, List.zip_cons_cons, List.lookup_cons] at e
    cases hx : x == y with
    | true => rw [hx] at e; cases e; exact ⟨0, by rw [beq_iff_eq.mp hx]; rfl, rfl⟩
    | false =>
      rw [hx] at e
      obtain ⟨i, h1, h2⟩ := zip_lookup (nx := nx) e
      exact ⟨i + 1, by simpa using h1, by omega⟩
theorem zip_lookup_none {nx : Nat} : ∀ {xs : List Str} {m : Nat} {x : Str}, (xs.zip (List.range' m xs.length)).lookup x = none → x ∉ xs
  | [], m, x, e => by simp
  | y :: xs, m, x, e => by
    rw [List.length_cons, List.range'_succ, List.zip_cons_cons, List.lookup_cons] at e
    cases hx : x == y with
    | true => rw [hx] at e; cases e
    | false =>
      rw [hx] at e
      intro q
      rcases List.mem_cons.mp q with q | q
      · rw [q] at hx; simp at hx
      · exact zip_lookup_none (nx := nx) e q
theorem lookup_append {α : Type} (a b : List (Str × α)) (x : Str) : (a ++ b).lookup x = match a.lookup x with | some c => some c | none => b.lookup x := by
  induction a with
  | nil => rfl
  | cons p a ih =>
    rw [List.cons_append, List.lookup_cons, List.lookup_cons]
    cases x == p.1 with
    | true => rfl
    | false => exact ih

theorem loop_turns {prog : Program} {w : World} {elt target iter : Expr} {ifs : List Expr} {scope : Scope} {pos : Pos} {it acc : Value} {env : Env} {R : Result → Shared → Prop} (I : Nat → Shared → Prop)
    (turn : ∀ n s, I n s → wpAny (model prog w) A (pyNext it) (fun r s₁ => match r with
      | none => R (.ok .next) s₁
      | some v => wpAny (model prog w) A (letOwnedTupleGo target it v) (fun _ s₁' => wpAny (model prog w) A (assign target env v) (fun _ s₂ =>
          wpAny (model prog w) A (forIn ifs true fun c r => if r = true then do let ok ← isTrue c env (eval c env); pure (ForInStep.yield ok) else pure (ForInStep.yield r)) (fun ok s₃ =>
            if ok = true then wpAny (model prog w) A (eval elt env) (fun x s₄ =>
              wpAny (model prog w) A (call (.builtin "list.append") [acc, x]) (fun _ s₅ => ∃ m, m < n ∧ I m s₅) (notedBy (model prog w) A env fun e s' => R (.error e) s') s₄) (notedBy (model prog w) A env fun e s' => R (.error e) s') s₃
            else ∃ m, m < n ∧ I m s₃) (notedBy (model prog w) A env fun e s' => R (.error e) s') s₂) (notedBy (model prog w) A env fun e s' => R (.error e) s') s₁') (notedBy (model prog w) A env fun e s' => R (.error e) s') s₁) (notedBy (model prog w) A env fun e s' => R (.error e) s') s)
    (n : Nat) (h : I n s) : codeAny (model prog w) A (.compLoop (.ListComp elt [⟨target, iter, ifs, 0⟩] scope pos) 0 it acc env) R s := by
  refine codeAny_loop rfl I (fun n s hI => ?_) n h
  show wpAny _ A ((compTurn (.ListComp elt [⟨target, iter, ifs, 0⟩] scope pos) 0 it acc env).onRaise (fun x => do noteFrame x env; theTreesLotGoes x)) _ _ s
  refine wpAny_noted ?_
  rw [compTurn_list]
  refine wpAny_bind (wpAny_standAt (wpAny_bind (wpAny_mono (turn n s hI) (fun r s₁ h₁ => ?_) fun _ _ h' => h')))
  cases r with
  | none => exact wpAny_pure h₁
  | some v =>
    refine wpAny_bind (wpAny_mono h₁ (fun _ s₁' h₁' => ?_) fun _ _ h' => h')
    refine wpAny_bind (wpAny_mono h₁' (fun _ s₂ h₂ => wpAny_bind (wpAny_mono h₂ (fun ok s₃ h₃ => ?_) fun _ _ h' => h')) fun _ _ h' => h')
    cases ok with
    | false => exact wpAny_pure ⟨rfl, h₃⟩
    | true =>
      exact wpAny_bind (wpAny_bind (wpAny_mono h₃ (fun x s₄ h₄ => wpAny_bind (wpAny_mono h₄ (fun _ s₅ h₅ => wpAny_pure (wpAny_pure ⟨rfl, h₅⟩)) fun _ _ h' => h')) fun _ _ h' => h'))

theorem comp_env {sc : Scope} {cl : List (Str × Addr)} {M : Model} {Q : Env → Shared → Prop}
    (h : Q { scope := sc, locals := s.heap.objs.size, globals := env.globals, cells := cellsFrom (s.heap.objs.size + 1) sc.names [] ++ cl, qual := env.qual, func := none, code := env.code, frame := env.frame, builtins := env.builtins }
      { s with heap := pushCells (s.heap.push { cls := .type "dict", data := .dict #[] }) sc.names }) : wpAny M A (newFunctionEnv sc env.globals cl [] env.qual none .none (some env)) Q E s := by
  simp only [newFunctionEnv, Option.isSome_some, if_true]
  refine wpAny_bind (wpAny_alloc ?_)
  refine wpAny_bind (wpAny_layCells _ (fun name kind cells => by cases hkc : kind == NameKind.cell <;> simp [hkc]) _ _ _ _ ?_)
  rw [show ({ s with heap := s.heap.push { cls := .type "dict", data := .dict #[] } } : Shared).heap.objs.size = s.heap.objs.size + 1 from Heap.size_push ..]
  rw [cellsFrom_app]
  simp only [List.forIn_nil]
  exact wpAny_bind (wpAny_pure (wpAny_pure h))

/-- what a turn asks -/
noncomputable def TurnOk (G : Gl) (Φ : Call) (dep n : Nat) (hm : Bool) (cx' : Cx) (ifs : List Expr) (elt : Expr) (step : Rho → (Option PyData → Prop) → Prop) : Prop :=
  (∃ e, lowE n cx' elt = some e ∧ ifs = [] ∧ step = fun ρ' k => wpE Φ hm e ρ' (fun v => got (kp v) fun y => k (some y)) (fun _ => False)) ∨
  (∃ e c c', lowE n cx' elt = some e ∧ ifs = [c] ∧ lowE n cx' c = some c' ∧ step = fun ρ' k => wpE Φ hm c' ρ' (fun b => ifB b (wpE Φ hm e ρ' (fun v => got (kp v) fun y => k (some y)) (fun _ => False)) (k none)) (fun _ => False))

theorem turn_ok (IH : SE G Φ dep n) (IT : ST G Φ dep n) {ifs : List Expr} {elt : Expr} {step : Rho → (Option PyData → Prop) → Prop} (T : TurnOk G Φ dep n hm cx' ifs elt step) {k : Option PyData → Prop} (S : Sit G dep cx' env hm A s.heap hid fr envs ρ) (w : step ρ k)
    {E' : Value → Shared → Prop} {P : Value → Shared → Prop} {Z : Shared → Prop}
    (h1 : ∀ v s' y, Ext fr s.heap s'.heap → Same s s' → Rd hid s'.heap v y → k (some y) → P v s') (h2 : ∀ s', Ext fr s.heap s'.heap → Same s s' → k none → Z s') :
    wpAny (model G.prog G.w) A (forIn ifs true fun c r => if r = true then do let ok ← isTrue c env (eval c env); pure (ForInStep.yield ok) else pure (ForInStep.yield r)) (fun ok s₃ =>
      if ok = true then wpAny (model G.prog G.w) A (eval elt env) P E' s₃ else Z s₃) E' s := by
  have none : ∀ {s'}, Thrown G fr s' (fun _ => False) E' := fun {s'} e s'' c _ _ f => f.elim
  rcases T with ⟨e, he, rfl, rfl⟩ | ⟨e, c, c', he, rfl, hc, rfl⟩
  · rw [List.forIn_nil]
    refine wpAny_pure ?_
    rw [if_pos rfl]
    refine IH _ _ _ _ _ _ _ _ _ _ _ _ _ _ _ he S w (fun v s' u r x m w' => ?_) none
    obtain ⟨y, e1, hk⟩ := got_some w'
    exact h1 v s' y x m (r.keep S.dom (S.ext x).dom e1) hk
  · refine wpAny_tests_one (IT _ _ _ _ _ _ _ _ _ _ _ _ _ _ _ hc S w (fun u hu => let ⟨c, e, _⟩ := ifB_inv hu; ⟨c, e⟩) (fun b s' x m w' => ?_) none)
    obtain ⟨b', e1, w'⟩ := ifB_inv w'
    cases e1
    cases b with
    | false => rw [if_neg (by decide)]; exact h2 s' x m (w'.2 rfl)
    | true =>
      rw [if_pos rfl]
      refine IH _ _ _ _ _ _ _ _ _ _ _ _ _ _ _ he (S.ext x) (w'.1 rfl) (fun v s'' u r x' m' w'' => ?_) none
      obtain ⟨y, e1, hk⟩ := got_some w''
      exact h1 v s'' y (x.trans x') (m.trans m') (r.keep (S.ext x).dom ((S.ext x).ext x').dom e1) hk
end
end TC

namespace TC
open PySem PySem.W PyProof.Rows

theorem Fm.on {env : Env} {own : List (Str × Addr)} {h h' : Heap} (F : Fm env own h) (k : ∀ b o, b ∈ placesOf env own → h.get? b = some o → h'.get? b = some o) : Fm env own h' := by
  obtain ⟨m, n⟩ := F.ns
  refine ⟨F.kf, ⟨m, n.at' fun o e => k _ o (.head _) e⟩, fun x c e => ?_, F.look, F.inj⟩
  obtain ⟨v, o, h1, h2⟩ := F.cell x c e
  exact ⟨v, o, k c o (.tail _ (List.mem_map.mpr ⟨(x, c), mem_of_lookup e, rfl⟩)) h1, h2⟩

section
variable {G : Gl} {Φ : Call} {dep n : Nat} {cx cx' : Cx} {env : Env} {hm : Bool} {A : Around} {s s₁ s₂ : Shared} {hid fr : List Addr} {envs : List Env} {ρ : Rho} {X : Nat → Prop} {E : Value → Shared → Prop} {v : Value} {u : V} {h₁ : Heap}

/-- the names of a comprehension's block -/
noncomputable def blockEnv (sc : Scope) (C : Addr) (own cl : List (Str × Addr)) (env : Env) : Env :=
  { scope := relabel sc env, locals := C, globals := env.globals, cells := own ++ cl, qual := env.qual, func := none, code := env.code, frame := env.frame, builtins := env.builtins }

theorem relabel_names {sc : Scope} (kf : env.scope.kind = .function) (hn : env.scope.names = cx.kd) : (relabel sc env).names = relab cx.kd sc.names := by
  unfold relabel relab Env.kindOf
  simp only [kf, hn]
  refine List.map_congr_left fun p _ => ?_
  obtain ⟨x, k⟩ := p
  simp

theorem own_none {sc : Scope} {m : Nat} {x : Str} (nd : (sc.names.map (·.1)).Nodup) (h : (x, NameKind.free) ∈ sc.names) : (cellsFrom m sc.names []).lookup x = none := by
  cases q : (cellsFrom m sc.names []).lookup x with
  | none => rfl
  | some c =>
    have h2 := cellsFrom_mem _ _ _ _ (mem_of_lookup q)
    have e1 := lookup_mem_nodup nd h
    rw [lookup_mem_nodup nd h2] at e1
    cases e1

theorem comp_sit {sc : Scope} {xs : List Str} {C : Addr} {m : Nat} {cl : List (Str × Addr)} {new : List Addr} {h4 : Heap} {vs : List Value} {us : List V} (S : Sit G dep cx env hm A s.heap hid fr envs ρ) (hi : cx.inner sc xs = some cx')
    (hcl : ∀ x, (x, NameKind.free) ∈ sc.names → cl.lookup x = env.cells.lookup x) (hcl2 : ∀ x c, cl.lookup x = some c → env.cells.lookup x = some c) (ho : ∀ x c, (x, c) ∈ cellsFrom m sc.names [] → c ∈ new) (x : Ext fr s.heap h4) (nw : ∀ b ∈ new, s.heap.get? b = none) (dn : ∀ b ∈ new, ∃ o, h4.get? b = some o ∧ NT o)
    (ta : ∀ (i : Nat) x w, xs[i]? = some x → vs[i]? = some w → varAt (blockEnv sc C (cellsFrom m sc.names []) cl env) h4 x w) (r : TRs G.ca h₁ hid fr s.heap vs us) (ku : ∀ w ∈ us, (∃ x, w = .d x) ∨ ∃ x, w = .brw x) (l : us.length = xs.length) :
    Sit G dep cx' (blockEnv sc C (cellsFrom m sc.names []) cl env) hm A h4 (new ++ hid) fr envs (ρ ++ us.map some) := by
  obtain ⟨i1, i2, i3, i4, fs, i5, rfl⟩ := inner_inv hi
  obtain ⟨f1, f2⟩ := freeOf_inv i5
  have hn := relabel_names (sc := sc) S.envok.kind S.envok.names
  have sub : ∀ b ∈ fr, b ∈ new ++ hid := fun b hb => List.mem_append_right _ (S.sub b hb)
  have lk : ∀ y, (relab cx.kd sc.names).lookup y = some .cell ∨ (relab cx.kd sc.names).lookup y = some .free → (y, NameKind.cell) ∈ sc.names ∨ (y, NameKind.free) ∈ sc.names := fun y hy => by
    rw [relab_lookup] at hy
    cases q : sc.names.lookup y with
    | none => rw [q] at hy; simp at hy
    | some k => rw [q] at hy; cases k <;> simp at hy <;> first | exact .inl (mem_of_lookup q) | exact .inr (mem_of_lookup q)
  have cells : ∀ y, (y, NameKind.free) ∈ sc.names → (cellsFrom m sc.names [] ++ cl).lookup y = env.cells.lookup y := fun y hy => by
    rw [lookup_append, own_none i2 hy]; exact hcl y hy
  refine ⟨S.stk.ext x, S.depth, S.units, S.hok.ext x, sub, fun b hb => ?_, ⟨i1, hn, S.envok.glob, S.envok.bns, S.envok.fns, S.envok.cls, S.envok.cst, fun y hy => ?_, fun y hy => ?_⟩, fun y i hy u hu => ?_, by simp [S.len, l], fun y c e => ?_⟩
  · rcases List.mem_append.mp hb with hb | hb
    · exact dn b hb
    · exact Dom.ext S.dom x b hb
  · rcases lk y hy with q | q
    · obtain ⟨c, hc⟩ := cellsFrom_some sc.names m y q
      refine ⟨c, ?_⟩
      show (cellsFrom m sc.names [] ++ cl).lookup y = some c
      rw [lookup_append, cellsFrom_uniq i2 m y c hc]
    · obtain ⟨c, hc⟩ := S.envok.cells y (f2 y q)
      exact ⟨c, (cells y q).trans hc⟩
  · rw [relab_lookup] at hy
    have q : sc.names.lookup y = some .free := by
      cases q : sc.names.lookup y with
      | none => rw [q] at hy; simp at hy
      | some k => rw [q] at hy; cases k <;> simp at hy; rfl
    rw [q] at hy
    refine S.envok.nocd y ?_
    rcases f2 y (mem_of_lookup q) with z | z
    · rw [z] at hy; simp at hy
    · exact z
  · replace hy : (xs.zip (List.range' cx.nx xs.length) ++ fs).lookup y = some i := hy
    rw [lookup_append] at hy
    cases q : (xs.zip (List.range' cx.nx xs.length)).lookup y with
    | some j =>
      rw [q] at hy; cases hy
      obtain ⟨k, h1, rfl⟩ := zip_lookup (nx := 0) q
      rw [List.getElem?_append_right (by rw [S.len]; omega), S.len, Nat.add_sub_cancel_left, List.getElem?_map] at hu
      obtain ⟨w, e1, e2⟩ := Option.map_eq_some_iff.mp hu
      cases e2
      obtain ⟨v, e3, r3⟩ := r.get e1
      refine ⟨v, ta k y v h1 e3, ?_⟩
      rcases ku u (List.mem_of_getElem? e1) with ⟨z, rfl⟩ | ⟨z, rfl⟩
      · exact TR.item (.inl ⟨z, rfl⟩) r3 x S.sub nw _
      · have D4 : Dom (new ++ hid) h4 := fun b hb => by
          rcases List.mem_append.mp hb with hb | hb
          · exact dn b hb
          · exact Dom.ext S.dom x b hb
        exact low_TR D4 (Rd.ext r3 x fun _ b => b)
    | none =>
      rw [q] at hy
      obtain ⟨g1, g2, g3⟩ := f1 y i hy
      rw [List.getElem?_append_left (by rw [S.len]; exact g2)] at hu
      obtain ⟨v, a, r3⟩ := S.envr y i g1 u hu
      refine ⟨v, ?_, TR.item ?_ r3 x S.sub nw _⟩
      · have hk := f2 y g3
        rcases a with ⟨k, _⟩ | ⟨k, c, hc, hv⟩
        · unfold Env.kindOf at k
          rw [S.envok.names] at k
          rcases hk with z | z <;> rw [k] at z <;> cases z
        · refine .inr ⟨?_, c, (cells y g3).trans hc, x.cell hv⟩
          show (relabel sc env).names.lookup y = some .cell ∨ (relabel sc env).names.lookup y = some .free
          rw [hn, relab_lookup, lookup_mem_nodup i2 g3]
          by_cases z : cx.kd.lookup y = some .cell
          · left; simp [z]
          · right; simp [z]
      · rcases nmV_cases u with z | z | z
        · exact .inl z
        · exact .inr (.inl z)
        · exact .inr (.inr z)
  · replace e : (cellsFrom m sc.names [] ++ cl).lookup y = some c := e
    rw [lookup_append] at e
    cases q : (cellsFrom m sc.names []).lookup y with
    | some c' => rw [q] at e; cases e; obtain ⟨o, z, _⟩ := dn c (ho y c (mem_of_lookup q)); exact ⟨o, z⟩
    | none => rw [q] at e; exact x.dom (S.cok y c (hcl2 y c e))
end
end TC

namespace TC
open PySem PySem.W PyProof.Rows

section
variable {G : Gl} {Φ : Call} {dep n : Nat} {cx cx' : Cx} {env : Env} {hm : Bool} {A : Around} {s s₁ s₂ : Shared} {hid fr : List Addr} {envs : List Env} {ρ : Rho} {X : Nat → Prop} {E : Value → Shared → Prop} {v : Value} {u : V} {h₁ : Heap} {K : V → Prop}

theorem bindT_inv {topt : Option Nat} {u : V} {k : Rho → Prop} (h : bindT topt u ρ k) : ∃ us, ((topt = none ∧ us = [u]) ∨ ∃ n, topt = some n ∧ partsV u n = some us) ∧ k (ρ ++ us.map some) := by
  cases topt with
  | none => exact ⟨[u], .inl ⟨rfl, rfl⟩, h⟩
  | some n =>
    obtain ⟨us, e, hk⟩ := got_some h
    exact ⟨us, .inr ⟨n, rfl, e⟩, hk⟩
theorem none_of_le {h : Heap} {b : Addr} (q : h.objs.size ≤ b) : h.get? b = none := Heap.get?_none_of_le q
theorem gone_of {h h' : Heap} (k : ∀ b o, h.get? b = some o → h'.get? b = some o) {b : Addr} (e : h'.get? b = none) : h.get? b = none := by
  cases q : h.get? b with
  | none => rfl
  | some o => have := k b o q; rw [e] at this; cases this

theorem comp_core (IH : SE G Φ dep n) (IT : ST G Φ dep n) {elt t iter : Expr} {ifs : List Expr} {sc : Scope} {pos : Pos} {topt : Option Nat} {xs : List Str} {step : Rho → (Option PyData → Prop) → Prop} {cl : List (Str × Addr)} {I : Addr} {us : List V} {h' : Heap}
    (ht : tgtNames t = some (topt, xs)) (hi : cx.inner sc xs = some cx') (T : TurnOk G Φ dep n hm cx' ifs elt step) (hcl : ∀ x, (x, NameKind.free) ∈ sc.names → cl.lookup x = env.cells.lookup x) (hcl2 : ∀ x c, cl.lookup x = some c → env.cells.lookup x = some c)
    (S : Sit G dep cx env hm A s.heap hid fr envs ρ) (kI : ∀ b o, s.heap.get? b = some o → h'.get? b = some o) (nI : s.heap.get? I = none) (W : ∃ sv, IterX G A hid fr I us s.heap h' sv) (lu : us.length ≤ 2 * lim) (w : compW step topt ρ K us [])
    {R : Value → Addr → Result → Shared → Prop}
    (fin : ∀ D C s' ws nn ys m, Ext fr s.heap s'.heap → Same s s' → s.heap.get? D = none → s.heap.get? C = none → C ≠ D → s'.heap.get? D = some (listObj ws nn) → RdAll (D :: C :: hid) s'.heap ws.toList ys → s'.heap.Ns C m → K (.own (.list ys)) → R (.ref D) C (.ok .next) s') :
    wpAny (model G.prog G.w) A (newList []) (fun acc s₃ => wpAny (model G.prog G.w) A (newFunctionEnv sc env.globals cl [] env.qual none .none (some env)) (fun cenv s₄ =>
      codeAny (model G.prog G.w) A (.compStart (.ListComp elt [⟨t, iter, ifs, 0⟩] sc pos) 0 (.ref I) acc { cenv with scope := relabel sc env }) (R acc cenv.locals) s₄) E s₃) E { s with heap := h' } := by
  obtain ⟨i1, i2, i3, i4, fs, i5, _⟩ := inner_inv hi
  obtain ⟨_, fp, P, St, Wk, st0, hfp, hP, hIt, hku, _⟩ := W
  refine wpAny_newObj_type ?_ (by size_fits)
  refine comp_env ?_
  dsimp only
  -- the places
  generalize hD : h'.objs.size = D
  have eC : (h'.push { cls := .type "list", dict := none, data := .seq ([] : List Value).toArray }).objs.size = D + 1 := by rw [Heap.size_push, hD]
  simp only [eC]
  have ok := cellsFrom_ok sc.names ((h'.push { cls := .type "list", dict := none, data := .seq ([] : List Value).toArray }).push { cls := .type "dict", data := .dict #[] }) (D + 1 + 1) [] ⟨fun _ _ hm => (nomatch hm), List.Pairwise.nil⟩ (by rw [Heap.size_push, eC]; exact Nat.le_refl _)
  rw [show ((h'.push { cls := .type "list", dict := none, data := .seq ([] : List Value).toArray }).push { cls := .type "dict", data := .dict #[] }).objs.size = D + 1 + 1 from by rw [Heap.size_push, eC]] at ok
  generalize h3e : pushCells ((h'.push { cls := .type "list", dict := none, data := .seq ([] : List Value).toArray }).push { cls := .type "dict", data := .dict #[] }) sc.names = h3 at ok ⊢
  have k3 : ∀ b o, h'.get? b = some o → h3.get? b = some o := fun b o e => by rw [← h3e]; exact pushCells_keeps _ _ b o (Heap.get?_push_of_some _ (Heap.get?_push_of_some _ e))
  have hD3 : h3.get? D = some (listObj #[] 0) := by
    rw [← h3e]; refine pushCells_keeps _ _ _ _ (Heap.get?_push_of_some _ ?_)
    rw [← hD]; exact Heap.get?_push_size _ rfl
  have hC3 : h3.Ns (D + 1) (fun _ => none) := by
    rw [← h3e]
    have := (Heap.Ns.new (h'.push { cls := .type "list", dict := none, data := .seq ([] : List Value).toArray }) (.type "dict"))
    rw [eC] at this
    exact this.keeps (pushCells_keeps _ _)
  -- the block's names
  show codeAny _ A (.compStart _ 0 (.ref I) (.ref D) (blockEnv sc (D + 1) (cellsFrom (D + 1 + 1) sc.names []) cl env)) (R (.ref D) (D + 1)) _
  generalize hown : cellsFrom (D + 1 + 1) sc.names [] = own at ok ⊢
  have uniq : OwnUniq own := hown ▸ cellsFrom_uniq i2 _
  have ownlt : ∀ x c, (x, c) ∈ own → D + 1 < c := fun x c hm => (ok.empty x c hm).2
  have plc : ∀ b ∈ placesOf (blockEnv sc (D + 1) own cl env) own, D < b := fun b hb => by
    rcases List.mem_cons.mp hb with rfl | hb
    · exact Nat.lt_succ_self D
    · obtain ⟨⟨x, c⟩, hm, rfl⟩ := List.mem_map.mp hb
      exact Nat.lt_trans (Nat.lt_succ_self D) (ownlt x c hm)
  have fm3 : Fm (blockEnv sc (D + 1) own cl env) own h3 := by
    refine ⟨i1, ⟨_, hC3⟩, fun x c e => ⟨none, (ok.empty x c (mem_of_lookup e)).1⟩, fun x c e => ?_, fun y c e x ex => ?_⟩
    · show (own ++ cl).lookup x = some c
      rw [lookup_append, e]
    · replace e : (own ++ cl).lookup y = some c := e
      rw [lookup_append] at e
      cases q : own.lookup y with
      | some c' => rw [q] at e; cases e; exact name_of_addr ok.apart (mem_of_lookup ex) (mem_of_lookup q)
      | none =>
        rw [q] at e
        exfalso
        obtain ⟨o, z⟩ := S.cok y c (hcl2 y c e)
        have z2 := Heap.lt_size (kI _ _ z)
        rw [hD] at z2
        exact Nat.lt_irrefl _ (Nat.lt_trans (Nat.lt_trans z2 (Nat.lt_succ_self D)) (ownlt x c (mem_of_lookup ex)))
  -- places that are new
  have nwp : ∀ b ∈ I :: D :: placesOf (blockEnv sc (D + 1) own cl env) own, s.heap.get? b = none := fun b hb => by
    rcases List.mem_cons.mp hb with rfl | hb
    · exact nI
    · refine gone_of kI (none_of_le ?_)
      rw [hD]
      rcases List.mem_cons.mp hb with rfl | hb
      · exact Nat.le_refl _
      · exact Nat.le_of_lt (plc b hb)
  have Ifp : I ∈ fp := Wk.sub I (.head _)
  have Ilt : I < D := by have := (hfp I Ifp).1; rw [hD] at this; exact this
  have fpD : ∀ b ∈ fp, b ≠ D ∧ b ∉ placesOf (blockEnv sc (D + 1) own cl env) own := fun b hb => by
    have lt := (hfp b hb).1
    rw [hD] at lt
    exact ⟨Nat.ne_of_lt lt, fun q => Nat.lt_irrefl _ (Nat.lt_trans (plc b q) lt)⟩
  have x3 : Ext fr s.heap h3 := Ext.of_keeps fun b o e => k3 b o (kI b o e)
  have offI : ∀ b o, s.heap.get? b = some o → b ∉ [I] := fun b o e q => by rw [List.mem_singleton.mp q, nI] at e; cases e
  let hid' := (I :: D :: placesOf (blockEnv sc (D + 1) own cl env) own) ++ hid
  let Inv : Nat → Shared → Prop := fun j s' => ∃ i ws nn ys, i + j = us.length ∧ St i s'.heap ∧ Ext fr s.heap s'.heap ∧ Same s s' ∧ s'.heap.get? D = some (listObj ws nn) ∧ RdAll hid' s'.heap ws.toList ys ∧ Fm (blockEnv sc (D + 1) own cl env) own s'.heap ∧ ys.length ≤ i ∧ compW step topt ρ K (us.drop i) ys
  have loop : ∀ s4 : Shared, s4.heap = h3 → Same s s4 → codeAny (model G.prog G.w) A (.compLoop (.ListComp elt [⟨t, iter, ifs, 0⟩] sc pos) 0 (.ref I) (.ref D) (blockEnv sc (D + 1) own cl env)) (R (.ref D) (D + 1)) s4 := fun s4 e4 m4 => by
    refine loop_turns Inv (fun j s' inv => ?_) us.length ⟨0, #[], 0, [], by omega, ?_, ?_, m4, ?_, .nil _ _, ?_, by simp, by simpa using w⟩
    rotate_left
    · rw [e4]; exact Wk.frame 0 h' h3 st0 fun b hb o e => k3 b o e
    · rw [e4]; exact x3
    · rw [e4]; exact hD3
    · rw [e4]; exact fm3
    obtain ⟨i, ws, nn, ys, e1, st, x1, m1, hd1, r1, F1, l1, w1⟩ := inv
    by_cases lt : i < us.length
    · refine Wk.item i s' _ _ lt st fun v h5 tk p st5 k5 => ?_
      have hu : us[i]? = some us[i] := List.getElem?_eq_getElem lt
      have rv := hP i v p _ hu
      have ku := hku _ (List.getElem_mem lt)
      have no : ∀ l, us[i] ≠ .ot l := fun l q => by rcases ku with ⟨y, z⟩ | ⟨y, z⟩ <;> rw [z] at q <;> cases q
      rw [List.drop_eq_getElem_cons lt] at w1
      obtain ⟨us', hu', w2⟩ := bindT_inv w1
      have ku' : ∀ z ∈ us', (∃ x, z = .d x) ∨ ∃ x, z = .brw x := by
        rcases hu' with ⟨_, rfl⟩ | ⟨k, _, e⟩
        · intro z hz; rw [List.mem_singleton.mp hz]; exact ku
        · exact parts_kind e no
      have x5 : Ext fr s.heap h5 := x1.on (P := fun b => b ∉ [I]) k5 offI
      obtain ⟨oI, nm, q1, q2, q3, q4⟩ := hIt (i + 1) h5 st5
      have F5 : Fm (blockEnv sc (D + 1) own cl env) own h5 := F1.on fun b o hb e => k5 b o (fun q => by
        rw [List.mem_singleton.mp q] at hb; exact Nat.lt_irrefl _ (Nat.lt_trans (plc I hb) Ilt)) e
      refine letOwned_ok (s := { s' with heap := h5, toks := tk }) q1 q2 q3 ?_
      refine tgt_ok (s := { s' with heap := h5, toks := tk }) (h₁ := s.heap) (hr := s.heap) (S.hok.ext x5) x5 S.sub S.dom ht i3 F5 (fun y hy => ?_) rv hu' no fun h6 tk6 vs F6 k6 a6 o6 r6 l6 => ?_
      · have hn := relabel_names (sc := sc) S.envok.kind S.envok.names
        unfold Bindable
        have hk : (blockEnv sc (D + 1) own cl env).kindOf y = (relab cx.kd sc.names).lookup y := by
          show (relabel sc env).names.lookup y = _
          rw [hn]
        rw [hk, relab_lookup]
        rcases i4 y hy with q | q
        · rw [q]; exact .inl rfl
        · rw [q]
          refine .inr ⟨rfl, ?_⟩
          obtain ⟨c, hc⟩ := cellsFrom_some sc.names (D + 1 + 1) y (mem_of_lookup q)
          rw [hown] at hc
          exact ⟨c, uniq y c hc⟩
      have x6 : Ext fr s.heap h6 := x5.on (P := fun b => b ∉ placesOf (blockEnv sc (D + 1) own cl env) own) k6 fun b o e q => by
        rw [nwp b (.tail _ (.tail _ q))] at e; cases e
      have hD5 : h5.get? D = some (listObj ws nn) := k5 D _ (fun q => (Nat.ne_of_lt Ilt) (List.mem_singleton.mp q).symm) hd1
      have Dpl : D ∉ placesOf (blockEnv sc (D + 1) own cl env) own := fun q => Nat.lt_irrefl _ (plc D q)
      have hD6 : h6.get? D = some (listObj ws nn) := k6 D _ Dpl hD5
      have hI6 : h6.get? I = some oI := k6 I _ (fpD I Ifp).2 q1
      have S6 : Sit G dep cx' (blockEnv sc (D + 1) own cl env) hm A h6 hid' fr envs (ρ ++ us'.map some) := by
        have := comp_sit (C := D + 1) (m := D + 1 + 1) (cl := cl) (new := I :: D :: placesOf (blockEnv sc (D + 1) own cl env) own) (h4 := h6) (vs := vs) (us := us') (h₁ := s.heap) S hi hcl hcl2 (fun y c hc => ?_) x6 nwp (fun b hb => ?_) (by rw [hown]; exact a6) r6 ku' l6
        · rw [hown] at this; exact this
        · rw [hown] at hc; exact .tail _ (.tail _ (.tail _ (List.mem_map.mpr ⟨(y, c), hc, rfl⟩)))
        · rcases List.mem_cons.mp hb with rfl | hb
          · exact ⟨oI, hI6, q4⟩
          · rcases List.mem_cons.mp hb with rfl | hb
            · exact ⟨_, hD6, fun e => by simp at e⟩
            · exact F6.dom uniq b hb
      have hidk : ∀ b o, b ∉ hid' → s'.heap.get? b = some o → b ∉ hid' ∧ h6.get? b = some o := fun b o hb e => by
        refine ⟨hb, k6 b o (fun q => hb (List.mem_append_left _ (.tail _ (.tail _ q)))) (k5 b o (fun q => hb ?_) e)⟩
        rw [List.mem_singleton.mp q]; exact List.mem_append_left _ (.head _)
      have r6' : RdAll hid' h6 ws.toList ys := r1.move hidk
      have m6 : Same s { s' with heap := h6, toks := tk6 } := ⟨m1.1, m1.2⟩
      -- the next turn
      have again : ∀ (s7 : Shared) ws' nn' ys', Ext fr s.heap s7.heap → Same s s7 → s7.heap.get? D = some (listObj ws' nn') → RdAll hid' s7.heap ws'.toList ys' → (∀ b ∈ fp, ∀ o, h6.get? b = some o → s7.heap.get? b = some o) → (∀ b o, b ∈ placesOf (blockEnv sc (D + 1) own cl env) own → h6.get? b = some o → s7.heap.get? b = some o) →
          ys'.length ≤ i + 1 → compW step topt ρ K (us.drop (i + 1)) ys' → ∃ m, m < j ∧ Inv m s7 := fun s7 ws' nn' ys' x7 m7 hd7 r7 kf kp l7 w7 => by
        refine ⟨j - 1, by omega, i + 1, ws', nn', ys', by omega, ?_, x7, m7, hd7, r7, F6.on kp, l7, w7⟩
        refine Wk.frame (i + 1) h5 _ st5 fun b hb o e => kf b hb o (k6 b o (fpD b hb).2 e)
      have plfr : ∀ b ∈ placesOf (blockEnv sc (D + 1) own cl env) own, b ∉ fr := fun b hb q => by
        obtain ⟨o, z, _⟩ := S.dom b (S.sub b q)
        rw [nwp b (.tail _ (.tail _ hb))] at z; cases z
      refine turn_ok IH IT (s := { s' with heap := h6, toks := tk6 }) T S6 w2 (fun v7 s7 y x7 m7 r7 w7 => ?_) fun s7 x7 m7 w7 => ?_
      · have Dfr : D ∉ fr := fun q => by
          obtain ⟨o, z, _⟩ := S.dom D (S.sub D q)
          rw [nwp D (.tail _ (.head _))] at z; cases z
        have hD7 : s7.heap.get? D = some (listObj ws nn) := (x7 D _ hD6).1 Dfr
        have r7' : RdAll hid' s7.heap ws.toList ys := r6'.ext x7 S6.sub
        refine append_ok hD7 ?_ fun h8 n8 hd8 k8 => ?_
        · have := r7'.length
          rw [Array.length_toList] at this
          rw [sizeLine_eq, this]
          rw [lim_eq] at lu
          omega
        · have kk : ∀ b o, b ∉ hid' → s7.heap.get? b = some o → b ∉ hid' ∧ h8.get? b = some o := fun b o hb e => ⟨hb, k8 b o (fun q => hb (by rw [q]; exact List.mem_append_left _ (.tail _ (.head _)))) e⟩
          have x8 : Ext fr s.heap h8 := (x6.trans x7).on (P := fun b => b ≠ D) k8 fun b o e z => by rw [z, nwp D (.tail _ (.head _))] at e; cases e
          refine again { s7 with heap := h8 } _ n8 (ys ++ [y]) x8 (m6.trans ⟨m7.1, m7.2⟩) hd8 ?_ (fun b hb o e => k8 b o (fpD b hb).1 ((x7 b o e).1 (hfp b hb).2)) (fun b o hb e => k8 b o (fun q => Dpl (q ▸ hb)) ((x7 b o e).1 (plfr b hb))) (by simp; omega) w7
          rw [Array.toList_push]
          exact (r7'.move kk).append (.cons (r7.move kk) (.nil _ _))
      · exact again s7 ws nn ys (x6.trans x7) (m6.trans ⟨m7.1, m7.2⟩) ((x7 D _ hD6).1 fun q => by
          obtain ⟨o, z, _⟩ := S.dom D (S.sub D q)
          rw [nwp D (.tail _ (.head _))] at z; cases z) (r6'.ext x7 S6.sub) (fun b hb o e => (x7 b o e).1 (hfp b hb).2) (fun b o hb e => (x7 b o e).1 (plfr b hb)) (by omega) w7
    · have ei : i = us.length := by omega
      refine Wk.done s' _ _ (ei ▸ st) fun h5 tk k5 => ?_
      have x5 : Ext fr s.heap h5 := x1.on (P := fun b => b ∉ [I]) k5 offI
      have hD5 : h5.get? D = some (listObj ws nn) := k5 D _ (fun q => (Nat.ne_of_lt Ilt) (List.mem_singleton.mp q).symm) hd1
      obtain ⟨mm, nsm⟩ := F1.ns
      have C1 : D + 1 ∉ [I] := fun q => by have := List.mem_singleton.mp q; rw [← this] at Ilt; exact Nat.lt_irrefl _ (Nat.lt_trans Ilt (Nat.lt_succ_self D))
      rw [List.drop_eq_nil_of_le (by omega)] at w1
      refine fin D (D + 1) { s' with heap := h5, toks := tk } ws nn ys mm x5 ⟨m1.1, m1.2⟩ (nwp D (.tail _ (.head _))) (nwp (D + 1) (.tail _ (.tail _ (.head _)))) (Nat.ne_of_gt (Nat.lt_succ_self D)) hD5 ?_ (nsm.at' fun o e => k5 _ o C1 e) w1.2
      refine RdAll.anti (hid := hid') (r1.move fun b o hb e => ⟨hb, k5 b o (fun q => hb ?_) e⟩) fun b hb => ?_
      · rw [List.mem_singleton.mp q]; exact List.mem_append_left _ (.head _)
      · rcases List.mem_cons.mp hb with rfl | hb
        · exact List.mem_append_left _ (.tail _ (.head _))
        · rcases List.mem_cons.mp hb with rfl | hb
          · exact List.mem_append_left _ (.tail _ (.tail _ (.head _)))
          · exact List.mem_append_right _ hb
  refine codeAny_compStart_list (loop _ rfl ⟨rfl, rfl⟩) (Wk.self 0 _ _ _ (Wk.frame 0 h' h3 st0 fun b hb o e => k3 b o e) (loop _ rfl ⟨rfl, rfl⟩))
end
end TC

namespace TC
open PySem PySem.W PyProof.Rows

section
variable {G : Gl} {Φ : Call} {dep n : Nat} {cx cx' : Cx} {env : Env} {hm : Bool} {A : Around} {s s₁ s₂ : Shared} {hid fr : List Addr} {envs : List Env} {ρ : Rho} {X : Nat → Prop} {E : Value → Shared → Prop} {v : Value} {u : V} {h₁ : Heap} {K : V → Prop}

theorem closure_ok {sc : Scope} (h : ∀ x, (x, NameKind.free) ∈ sc.names → ∃ c, env.cells.lookup x = some c) :
    ∃ cl, closureFor sc env = pure cl ∧ (∀ x, (x, NameKind.free) ∈ sc.names → cl.lookup x = env.cells.lookup x) ∧ ∀ x c, cl.lookup x = some c → env.cells.lookup x = some c := by
  obtain ⟨cl, h1, h2, h3⟩ := clos_ok (env := env) (fun p cells => if p.2 == .free then (do let a ← cellOf env p.1; pure (.yield ((p.1, a) :: cells))) else pure (.yield cells)) (fun _ _ _ => rfl) sc.names [] h
  refine ⟨cl, ?_, fun x hx => h2 x (.inl hx), fun x c e => (h3 x c e).elim (fun q => by cases q) id⟩
  unfold closureFor
  refine Eq.trans (congrArg (· >>= fun cs => pure cs) (Eq.trans ?_ h1)) rfl
  refine congrArg (forIn sc.names []) (funext fun p => funext fun cells => ?_)
  obtain ⟨x, k⟩ := p
  show (if (k == NameKind.free) = true then _ else _) = (if (k == NameKind.free) = true then _ else _)
  split <;> first | rfl | simp
theorem src_set {f : Expr → Option TC.E} {iter : Expr} {src : Src} (h : lowSrcWith f cx iter = some src) (x : Value) : foldedSetIterable iter env x = pure x := by
  cases iter <;> first | rfl | cases h

theorem comp_any (O : G.Ok) (IH : SE G Φ dep n) (IT : ST G Φ dep n) {elt t iter : Expr} {ifs : List Expr} {sc : Scope} {pos p : Pos} {topt : Option Nat} {xs : List Str} {src : Src} {step : Rho → (Option PyData → Prop) → Prop} {use : Option (Value → Sem Unit)} {Q : Value → Shared → Prop}
    (ht : tgtNames t = some (topt, xs)) (hs : lowSrcWith (lowE n cx) cx iter = some src) (hi : cx.inner sc xs = some cx') (T : TurnOk G Φ dep n hm cx' ifs elt step) (S : Sit G dep cx env hm A s.heap hid fr envs ρ)
    (w : wpSrc Φ hm src ρ (fun us => compW step topt ρ K us []) X) (t' : Thrown G fr s X E)
    (fin : ∀ D C s' ws nn ys m, Ext fr s.heap s'.heap → Same s s' → s.heap.get? D = none → s.heap.get? C = none → C ≠ D → s'.heap.get? D = some (listObj ws nn) → RdAll (D :: C :: hid) s'.heap ws.toList ys → s'.heap.Ns C m → K (.own (.list ys)) →
      compPost (model G.prog G.w) A E use Q (.ref D) C (.ok .next) s') :
    wpAny (model G.prog G.w) A (comprehension (.ListComp elt [⟨t, iter, ifs, 0⟩] sc pos) sc env p (newList []) false (eval iter env) use) Q E s := by
  obtain ⟨i1, i2, i3, i4, fs, i5, _⟩ := inner_inv hi
  obtain ⟨f1, f2⟩ := freeOf_inv i5
  obtain ⟨cl, c1, c2, c3⟩ := closure_ok (env := env) (sc := sc) fun x hx => S.envok.cells x (f2 x hx)
  refine wpAny_comprehension_free (g := ⟨t, iter, ifs, 0⟩) (gs := []) rfl (src_set hs) c1 i1 (fun x hx q => ?_) (src_ok O IH hs S w (fun I us s₁ h' x1 m1 k1 n1 W lu w1 => ?_) t')
  · obtain ⟨y, k⟩ := x; cases q; exact lookup_mem_nodup i2 hx
  · refine comp_core (R := compPost (model G.prog G.w) A E use Q) IH IT ht hi T c2 c3 (S.ext x1) k1 n1 (let ⟨sv, q, _⟩ := W; ⟨sv, q⟩) lu w1 fun D C s' ws nn ys m x2 m2 d1 d2 d3 hd r ns hk => ?_
    exact fin D C s' ws nn ys m (x1.trans x2) (m1.trans m2) (x1.gone d1) (x1.gone d2) d3 hd r ns hk
theorem comp_case (O : G.Ok) (IH : SE G Φ dep n) (IT : ST G Φ dep n) {elt t iter : Expr} {ifs : List Expr} {sc : Scope} {pos : Pos} {topt : Option Nat} {xs : List Str} {src : Src} {step : Rho → (Option PyData → Prop) → Prop} {Q : Value → Shared → Prop}
    (ht : tgtNames t = some (topt, xs)) (hs : lowSrcWith (lowE n cx) cx iter = some src) (hi : cx.inner sc xs = some cx') (T : TurnOk G Φ dep n hm cx' ifs elt step) (S : Sit G dep cx env hm A s.heap hid fr envs ρ)
    (w : wpSrc Φ hm src ρ (fun us => compW step topt ρ K us []) X) (k : Ends G hid fr s K Q) (t' : Thrown G fr s X E) : wpAny (model G.prog G.w) A (eval (.ListComp elt [⟨t, iter, ifs, 0⟩] sc pos) env) Q E s := by
  rw [eval_ListComp]
  refine comp_any (use := none) O IH IT ht hs hi T S w t' fun D C s' ws nn ys m x2 m2 d1 d2 d3 hd r ns hk => ⟨m, ns, fun h' sb => ?_⟩
  have kp : ∀ b o, b ≠ C → s'.heap.get? b = some o → h'.get? b = some o := fun b o hb e => (sb.2 b hb).trans e
  have x3 : Ext fr s.heap h' := x2.on (P := fun b => b ≠ C) kp fun b o e z => by rw [z, d2] at e; cases e
  refine k _ _ (.own (.list ys)) ⟨D, rfl, d1, ws, nn, kp D _ (Ne.symm d3) hd, ?_⟩ x3 ⟨m2.1, m2.2⟩ hk
  refine RdAll.anti (hid := D :: C :: hid) (r.move fun b o hb e => ⟨hb, kp b o (fun q => hb (q ▸ .tail _ (.head _))) e⟩) fun b hb => ?_
  rcases List.mem_cons.mp hb with rfl | hb
  · exact .head _
  · exact .tail _ (.tail _ hb)

/-- a call of an own def -/
theorem fn_at (O : G.Ok) {k : Nat} {a : Addr} (h : G.fa[k]? = some a) : ∃ o fd, G.B.get? a = some o ∧ o.data = .func fd := by
  obtain ⟨d, fn, ow, h1, h2, h3, h4, h5⟩ := O.fok k a h
  obtain ⟨a', o, pm, code, doc, q1, q2, q3, q4⟩ := O.top.fn d h1
  have := mg_of O.inK O.top.g h2
  rw [q1] at this
  cases this
  exact ⟨o, _, q2, q3⟩
theorem argV_ok {h : Heap} (D1 : Dom hid h₁) (D : Dom hid h) (r : TR G.ca h₁ hid fr h v u) : TR G.ca h hid fr h v (argV u) ∧ argV (argV u) = argV u := by
  cases u with
  | d x => exact ⟨r, rfl⟩
  | own x => exact ⟨r.keep D1 D rfl, rfl⟩
  | brw x => exact ⟨r, rfl⟩
  | ot l => exact ⟨r.keep D1 D rfl, rfl⟩
  | exc c => exact ⟨r, rfl⟩
theorem args_V {h : Heap} (D1 : Dom hid h₁) (D : Dom hid h) : ∀ {vs : List Value} {us : List V}, TRs G.ca h₁ hid fr h vs us → TRs G.ca h hid fr h vs (us.map argV) ∧ ∀ u ∈ us.map argV, argV u = u
  | [], [], _ => ⟨trivial, fun u h => by cases h⟩
  | v :: vs, u :: us, ⟨a, b⟩ => by
    obtain ⟨h1, h2⟩ := args_V D1 D b
    obtain ⟨h3, h4⟩ := argV_ok D1 D a
    refine ⟨⟨h3, h1⟩, fun w hw => ?_⟩
    rcases List.mem_cons.mp hw with rfl | hw
    · exact h4
    · exact h2 w hw
theorem call_case (O : G.Ok) (IH : SE G Φ dep n) (IC : SC G Φ dep) {f : Str} {args : List Expr} {es : Es} {k : Nat} {p pos : Pos} {Q : Value → Shared → Prop} (hg : cx.glob f = true) (lf : cx.fns.lookup f = some k) (hl : lowL (lowE n cx) args = some es) (S : Sit G dep cx env hm A s.heap hid fr envs ρ)
    (w : wpE Φ hm (.call k es) ρ K X) (kk : Ends G hid fr s K Q) (t : Thrown G fr s X E) : wpAny (model G.prog G.w) A (eval (.Call (.Name f p) args [] pos) env) Q E s := by
  obtain ⟨a, h1, h2⟩ := O.fnm f k (by rw [← S.envok.fns]; exact lf)
  obtain ⟨o, fd, h3, h4⟩ := fn_at O h1
  refine call_eq (name_own O S hg h2 ?_) ⟨_, _, rfl⟩
  have fin : ∀ vs s' us, TRs G.ca s.heap hid fr s'.heap vs us → Ext fr s.heap s'.heap → Same s s' → us.length = args.length → Φ hm k (us.map argV) K X → (s'.heap.get? a = some o ∧ o.data = .func fd) ∧ wpAny (model G.prog G.w) A (call (.ref a) vs) Q E s' := fun vs s' us r x m l w' => by
    refine ⟨⟨(S.ext x).stk.base _ _ h3, h4⟩, ?_⟩
    obtain ⟨r1, r2⟩ := args_V S.dom (S.ext x).dom r
    exact IC hm A s' hid fr envs k a vs _ K X Q E h1 (S.ext x).csit r1 r2 w' (kk.from x m) (t.from x m)
  cases args with
  | nil =>
    cases hl
    refine Calls.callWith_function (o := o) (fd := fd) (PyProof.Rows.evalArgs_none ?_)
    exact fin [] s [] trivial (Ext.refl _ _) (Same.refl _) rfl w
  | cons e es' =>
    have h5 := hl
    obtain ⟨a1, h6, h7⟩ := Option.bind_eq_some_iff.mp hl
    refine Calls.callWith_function (o := o) (fd := fd) ?_
    have := args_ok (pos := pos) (Q := fun vs s' => (s'.heap.get? a = some o ∧ o.data = .func fd) ∧ wpAny (model G.prog G.w) A (call (.ref a) vs) Q E s') (E := E) IH h5 S w fin t
    rw [star_of_low h6] at this ⊢
    exact Calls.evalArgs_plain this

theorem sortedR_case (O : G.Ok) (IH : SE G Φ dep n) {x : Expr} {a : TC.E} {p p1 p2 pos : Pos} {c : Nat} {Q : Value → Shared → Prop} (hg : cx.glob "sorted" = true) (hl : lowE n cx x = some a) (S : Sit G dep cx env hm A s.heap hid fr envs ρ) (w : wpE Φ hm (.f1 .sortedR a) ρ K X)
    (k : Ends G hid fr s K Q) (t : Thrown G fr s X E) : wpAny (model G.prog G.w) A (eval (.Call (.Name "sorted" p) [x] [⟨some "reverse", .Constant (.bool true) c p1, p2⟩] pos) env) Q E s := by
  show wpAny _ A (do callWith pos (← eval (.Name "sorted" p) env) [] (backTo pos (starEach [x] env)) (backToKw pos (keywordEach [⟨some "reverse", .Constant (.bool true) c p1, p2⟩] env))) Q E s
  refine wpAny_bind (name_built O S hg (by decide) boot_sorted (callWith_kw (args_cons (IH _ _ _ _ _ _ _ _ _ _ _ _ _ _ _ hl S w (fun v1 s₁ u1 r1 x1 m1 w1 => args_nil ?_) t) (star_of_low hl)) (by rw [star_of_low hl]; rfl) (by rw [star_of_low hl]; rfl) rfl rfl))
  obtain ⟨u, ev, hk⟩ := got_some (qW_inv w1).2
  obtain ⟨y, e1, ev⟩ := Option.bind_eq_some_iff.mp ev
  cases y with
  | list ys =>
    obtain ⟨is, e2, ev⟩ := Option.bind_eq_some_iff.mp ev
    split at ev
    · rename_i hz
      cases ev
      obtain ⟨l, vs, nn, rfl, _, h2, q⟩ := (r1.rdf S.sub S.dom (S.ext x1).dom e1).list_inv
      have fin := sortedR_call (prog := G.prog) (w := G.w) (A := A) (E := E) h2 (ints_are q e2) hz (k.to x1 m1 hk)
      show wpAny _ A (evalAll [do let v ← eval (.Constant (.bool true) c p1) env; standAt pos; pure v]) _ _ s₁
      unfold evalAll
      refine wpAny_bind (wpAny_bind (PyProof.Rows.Constant_bool (wpAny_bind (wpAny_standAt (wpAny_pure ?_)))))
      refine wpAny_bind (wpAny_holding (wpAny_pure ?_))
      exact wpAny_pure fin
    · cases ev
  | _ => cases ev
end
end TC

namespace TC
open PySem PySem.W PyProof.Rows

section
variable {G : Gl} {Φ : Call} {dep n : Nat}

theorem call_kw {cx : Cx} {env : Env} {args : List Expr} {kws : List Keyword} {k : Nat} {f : Str} (h : kws.isEmpty = true) : kws = [] := by cases kws with | nil => rfl | cons => cases h

theorem se_succ (O : G.Ok) (IC : SC G Φ dep) (IH : SE G Φ dep n) (IT : ST G Φ dep n) : SE G Φ dep (n + 1) := by
  intro cx env hm A s hid fr envs ρ pe e K X Q E' lo S w k t
  cases pe with
  | Name x p =>
    replace lo : (match cx.var x with | some i => some (E.nm i) | none => if cx.glob x then (cx.cst.lookup x).map E.int else none) = some e := lo
    split at lo
    · rename_i i hv
      cases lo
      obtain ⟨o, e1, w⟩ := got_some w
      obtain ⟨u, rfl, w⟩ := got_some w
      exact name_var S hv e1 fun v r => k v s _ r (Ext.refl _ _) (Same.refl _) w
    · split at lo
      · rename_i hg
        obtain ⟨i, h1, rfl⟩ := Option.map_eq_some_iff.mp lo
        obtain ⟨tk, h2⟩ := O.cnst x i (by rw [← S.envok.cst]; exact h1)
        exact name_own O S hg h2 (k _ s (.d (.int i)) (Rd.int _ _ _ _) (Ext.refl _ _) (Same.refl _) w)
      · exact nope lo
  | Constant c m p =>
    cases c with
    | int i => cases lo; exact wpAny_Constant_int ((k.here w).int _ _)
    | str x => cases lo; exact Calls.Constant_str (k _ _ (.d (.str _)) (Rd.str _ _ _ _) (Ext.refl _ _) ⟨rfl, rfl⟩ w)
    | bool b => cases lo; exact PyProof.Rows.Constant_bool (k.here w).bool'
    | none => cases lo; exact PyProof.Rows.Constant_none (k _ _ (.d .none) (Rd.non _ _) (Ext.refl _ _) (Same.refl _) w)
    | _ => exact nope lo
  | UnaryOp o x p =>
    cases o with
    | Not => obtain ⟨a, h1, rfl⟩ := Option.map_eq_some_iff.mp (show (lowE n cx x).map (.f1 .not) = some e from lo); exact not_case IH h1 S w k t
    | USub =>
      cases x with
      | Constant c m q =>
        cases c with
        | int i => cases lo; exact UnaryOp_ (wpAny_Constant_int (PyProof.Rows.neg_int (k _ _ (.d (.int _)) (Rd.int _ _ _ _) (Ext.refl _ _) ⟨rfl, rfl⟩ w)))
        | _ => exact nope lo
      | _ => exact nope lo
    | _ => exact nope lo
  | BinOp l o r p =>
    have gen : ((lowOp o).bind fun o => (lowE n cx l).bind fun a => (lowE n cx r).map fun b => E.op o a b) = some e → wpAny (model G.prog G.w) A (eval (.BinOp l o r p) env) Q E' s := fun lo => by
      obtain ⟨o, h1, lo⟩ := Option.bind_eq_some_iff.mp lo
      obtain ⟨a, h2, lo⟩ := Option.bind_eq_some_iff.mp lo
      obtain ⟨b, h3, rfl⟩ := Option.map_eq_some_iff.mp lo
      exact bin_case IH h1 h2 h3 S w k t
    cases l with
    | Constant c m q =>
      cases c with
      | int a =>
        cases o with
        | Pow =>
          cases r with
          | Constant c m q =>
            cases c with
            | int b =>
              replace lo : (if 0 < a && a ≤ 10 && 0 ≤ b && b ≤ 20 then some (E.int (a ^ b.toNat)) else none) = some e := lo
              split at lo
              · rename_i c
                cases lo
                simp only [Bool.and_eq_true, decide_eq_true_eq] at c
                refine wpAny_BinOp (wpAny_Constant_int (wpAny_Constant_int (PyProof.Rows.pow_int_small (by omega) (by omega) ?_ (k _ _ (.d (.int _)) (Rd.int _ _ _ _) (Ext.refl _ _) ⟨rfl, rfl⟩ w))))
                have := c.1.1.2
                omega
              · exact nope lo
            | _ => exact gen lo
          | _ => exact gen lo
        | _ => exact gen lo
      | _ => exact gen lo
    | _ => exact gen lo
  | BoolOp o es p =>
    cases o with
    | And => obtain ⟨a, h1, rfl⟩ := Option.map_eq_some_iff.mp (show (lowL (lowE n cx) es).map .and = some e from lo); exact and_case IH h1 S w k t
    | Or => obtain ⟨a, h1, rfl⟩ := Option.map_eq_some_iff.mp (show (lowL (lowE n cx) es).map .or = some e from lo); exact or_case IH h1 S w k t
  | Compare l os rs p =>
    have gen : (if lastMarks os rs then none else (lowE n cx l).bind fun a => (lowCs (lowE n cx) os rs).map fun c => E.cmp a c) = some e → wpAny (model G.prog G.w) A (eval (.Compare l os rs p) env) Q E' s := fun lo => by
      split at lo
      · exact nope lo
      · rename_i hm'
        obtain ⟨a, h2, lo⟩ := Option.bind_eq_some_iff.mp lo
        obtain ⟨b, h3, rfl⟩ := Option.map_eq_some_iff.mp lo
        exact cmp_case IH h2 h3 (Bool.eq_false_iff.mpr hm') S w k t
    cases os with
    | nil => exact gen lo
    | cons o os =>
      cases o with
      | Is =>
        cases os with
        | cons => exact gen lo
        | nil =>
          cases rs with
          | nil => exact gen lo
          | cons r rs =>
            cases rs with
            | cons => exact gen lo
            | nil =>
              replace lo : (if isNoneC r then (lowE n cx l).map (.f1 .isNone) else none) = some e := lo
              split at lo
              · rename_i hn
                obtain ⟨a, h1, rfl⟩ := Option.map_eq_some_iff.mp lo; exact none_case (neg := false) IH h1 hn S w k t
              · exact nope lo
      | IsNot =>
        cases os with
        | cons => exact gen lo
        | nil =>
          cases rs with
          | nil => exact gen lo
          | cons r rs =>
            cases rs with
            | cons => exact gen lo
            | nil =>
              replace lo : (if isNoneC r then (lowE n cx l).map (.f1 .notNone) else none) = some e := lo
              split at lo
              · rename_i hn
                obtain ⟨a, h1, rfl⟩ := Option.map_eq_some_iff.mp lo; exact none_case (neg := true) IH h1 hn S w k t
              · exact nope lo
      | _ => exact gen lo
  | Tuple es c p =>
    replace lo : (if es.length < 1000 then (lowL (lowE n cx) es).map E.tup else none) = some e := lo
    split at lo
    · rename_i hz
      obtain ⟨a, h1, rfl⟩ := Option.map_eq_some_iff.mp lo; exact tup_case IH h1 hz S w k t
    · exact nope lo
  | List es p =>
    replace lo : (if es.length < 1000 then (lowL (lowE n cx) es).map E.lst else none) = some e := lo
    split at lo
    · rename_i hz
      obtain ⟨a, h1, rfl⟩ := Option.map_eq_some_iff.mp lo; exact lst_case IH h1 hz S w k t
    · exact nope lo
  | Dict ks vs p =>
    cases ks with
    | cons => exact nope lo
    | nil =>
      cases vs with
      | cons => exact nope lo
      | nil =>
        cases lo
        refine wpAny_Dict_empty (k _ _ (.own (.dict [])) ⟨_, rfl, size_none _, #[], 0, Heap.get?_push_size _ rfl, .nil _ _, .nil _ _, rfl⟩ (ext_push _ _ _) ⟨rfl, rfl⟩ w)
  | Subscript a i p =>
    have gen : ((lowE n cx a).bind fun a => (lowE n cx i).map fun i => E.idx a i) = some e → wpAny (model G.prog G.w) A (eval (.Subscript a i p) env) Q E' s := fun lo => by
      obtain ⟨a, h2, lo⟩ := Option.bind_eq_some_iff.mp lo
      obtain ⟨b, h3, rfl⟩ := Option.map_eq_some_iff.mp lo
      exact idx_case IH h2 h3 S w k t
    cases i with
    | Slice lo' hi st q =>
      cases lo' with
      | some x =>
        cases hi with
        | some => exact gen lo
        | none =>
          cases st with
          | some => exact gen lo
          | none =>
            obtain ⟨a, h2, lo⟩ := Option.bind_eq_some_iff.mp (show ((lowE n cx a).bind fun a => (lowE n cx x).map fun i => E.sfrom a i) = some e from lo)
            obtain ⟨b, h3, rfl⟩ := Option.map_eq_some_iff.mp lo
            exact from_case IH h2 h3 S w k t
      | none =>
        cases hi with
        | none => exact gen lo
        | some x =>
          cases st with
          | some => exact gen lo
          | none =>
            obtain ⟨a, h2, lo⟩ := Option.bind_eq_some_iff.mp (show ((lowE n cx a).bind fun a => (lowE n cx x).map fun i => E.sto a i) = some e from lo)
            obtain ⟨b, h3, rfl⟩ := Option.map_eq_some_iff.mp lo
            exact upto_case IH h2 h3 S w k t
    | _ => exact gen lo
  | Call f args kws pos =>
    cases f with
    | Name f p =>
      replace lo : lowCallE (lowE n cx) cx f args kws = some e := lo
      unfold lowCallE at lo
      split at lo
      · exact nope lo
      · rename_i hg
        have hg : cx.glob f = true := by simpa using hg
        split at lo
        · rename_i i hf
          split at lo
          · rename_i hk
            obtain rfl := call_kw (cx := cx) (env := env) (args := args) (k := i) (f := f) hk
            obtain ⟨a, h1, rfl⟩ := Option.map_eq_some_iff.mp lo
            exact call_case O IH IC hg hf h1 S w k t
          · exact nope lo
        · split at lo
          · obtain ⟨g, h1, lo⟩ := Option.bind_eq_some_iff.mp lo
            obtain ⟨a, h2, rfl⟩ := Option.map_eq_some_iff.mp lo
            exact f1_case O IH hg h1 h2 S w k t
          · split at lo
            · rename_i c
              simp only [Bool.and_eq_true, beq_iff_eq] at c
              obtain ⟨rfl, rfl⟩ := c
              obtain ⟨a, h2, rfl⟩ := Option.map_eq_some_iff.mp lo
              exact sortedR_case O IH hg h2 S w k t
            · exact nope lo
          · split at lo
            · rename_i c
              rw [beq_iff_eq] at c; subst c
              obtain ⟨T, h1, lo⟩ := Option.bind_eq_some_iff.mp lo
              split at lo
              · rename_i hT
                obtain ⟨ty, h2, lo⟩ := Option.bind_eq_some_iff.mp lo
                obtain ⟨a, h3, rfl⟩ := Option.map_eq_some_iff.mp lo
                exact isi_case O IH hg h1 hT h2 h3 S w k t
              · exact nope lo
            · obtain ⟨g, h1, lo⟩ := Option.bind_eq_some_iff.mp lo
              obtain ⟨a, h2, lo⟩ := Option.bind_eq_some_iff.mp lo
              obtain ⟨b, h3, rfl⟩ := Option.map_eq_some_iff.mp lo
              exact f2_case O IH hg h1 h2 h3 S w k t
          · exact nope lo
    | _ => exact nope lo
  | ListComp elt gens sc pos =>
    obtain ⟨tg, iter, ifs, rfl, topt, xs, src, cx', e', h1, h2, h3, h4, lo⟩ := lowComp_inv lo
    rcases lo with ⟨rfl, rfl⟩ | ⟨c, c', rfl, h5, rfl⟩
    · exact comp_case O IH IT h1 h2 h3 (.inl ⟨e', h4, rfl, rfl⟩) S w k t
    · exact comp_case O IH IT h1 h2 h3 (.inr ⟨e', _, c', h4, rfl, h5, rfl⟩) S w k t
  | _ => exact nope lo

theorem st_succ (IH : SE G Φ dep n) (IT : ST G Φ dep n) (IE : SE G Φ dep (n + 1)) : ST G Φ dep (n + 1) := by
  intro cx env hm A s hid fr envs ρ pe e K X Q E' lo S w kb k t
  have plain : isTrue pe env (eval pe env) = (do let v ← eval pe env; standAt pe.pos; holding [v] (truthy v)) → wpAny (model G.prog G.w) A (isTrue pe env (eval pe env)) Q E' s := fun he => by
    refine isTrue_plain (IE _ _ _ _ _ _ _ _ _ _ _ _ _ _ _ lo S w (fun v s' u r x m hk => ?_) t) he
    obtain ⟨c, rfl⟩ := kb u hk
    obtain rfl := Rd.bool_inv r
    exact wpAny_truthy_bool (k c s' x m hk)
  cases pe with
  | UnaryOp op x p =>
    cases op with
    | Not => obtain ⟨a, h1, rfl⟩ := Option.map_eq_some_iff.mp (show (lowE n cx x).map (.f1 .not) = some e from lo); exact not_test IT h1 S w k t
    | _ => exact plain rfl
  | BoolOp op es p =>
    cases op with
    | And => obtain ⟨a, h1, rfl⟩ := Option.map_eq_some_iff.mp (show (lowL (lowE n cx) es).map .and = some e from lo); exact and_test IT h1 S w k t
    | Or => obtain ⟨a, h1, rfl⟩ := Option.map_eq_some_iff.mp (show (lowL (lowE n cx) es).map .or = some e from lo); exact or_test IT h1 S w k t
  | Compare l os rs p =>
    have gen : (if lastMarks os rs then none else (lowE n cx l).bind fun a => (lowCs (lowE n cx) os rs).map fun c => E.cmp a c) = some e → wpAny (model G.prog G.w) A (isTrue (.Compare l os rs p) env (eval (.Compare l os rs p) env)) Q E' s := fun lo => by
      split at lo
      · exact nope lo
      · rename_i hm'
        obtain ⟨a, h2, lo⟩ := Option.bind_eq_some_iff.mp lo
        obtain ⟨b, h3, rfl⟩ := Option.map_eq_some_iff.mp lo
        exact cmp_test IH h2 h3 (Bool.eq_false_iff.mpr hm') S w kb k t
    cases os with
    | nil => exact gen lo
    | cons o os =>
      cases o with
      | Is =>
        cases os with
        | cons => exact gen lo
        | nil =>
          cases rs with
          | nil => exact gen lo
          | cons r rs =>
            cases rs with
            | cons => exact gen lo
            | nil =>
              replace lo : (if isNoneC r then (lowE n cx l).map (.f1 .isNone) else none) = some e := lo
              split at lo
              · rename_i hn
                obtain ⟨a, h1, rfl⟩ := Option.map_eq_some_iff.mp lo; exact none_test (neg := false) IH h1 hn S w kb k t
              · exact nope lo
      | IsNot =>
        cases os with
        | cons => exact gen lo
        | nil =>
          cases rs with
          | nil => exact gen lo
          | cons r rs =>
            cases rs with
            | cons => exact gen lo
            | nil =>
              replace lo : (if isNoneC r then (lowE n cx l).map (.f1 .notNone) else none) = some e := lo
              split at lo
              · rename_i hn
                obtain ⟨a, h1, rfl⟩ := Option.map_eq_some_iff.mp lo; exact none_test (neg := true) IH h1 hn S w kb k t
              · exact nope lo
      | _ => exact gen lo
  | IfExp => exact nope lo
  | _ => exact plain rfl
end
end TC
namespace TC
theorem se_all {G : Gl} {Φ : Call} {dep : Nat} (O : G.Ok) (IC : SC G Φ dep) : ∀ n, SE G Φ dep n ∧ ST G Φ dep n
  | 0 => ⟨fun _ _ _ _ _ _ _ _ _ _ _ _ _ _ _ lo => (by cases lo), fun _ _ _ _ _ _ _ _ _ _ _ _ _ _ _ lo => (by cases lo)⟩
  | n + 1 => by
    obtain ⟨a, b⟩ := se_all O IC n
    have h := se_succ O IC a b
    exact ⟨h, st_succ a b h⟩
end TC

namespace TC
open PySem PySem.W PyProof.Rows

/-! The state of a def under way. -/

/-- what a def's frame stands on: the heap at the call, what was hidden then, the frames then -/
structure Fx where
  cx : Cx
  env : Env
  own : List (Str × Addr)
  h₀ : Heap
  hid0 : List Addr
  fr0 : List Addr
  envs0 : List Env
noncomputable def Fx.fr (F : Fx) : List Addr := F.env.locals :: F.fr0
noncomputable def Fx.pls (F : Fx) : List Addr := placesOf F.env F.own
noncomputable def Fx.hid (F : Fx) (pl : List Addr) : List Addr := pl ++ (F.pls ++ F.hid0)

/-- what the name's slot holds; P: the own places that go with it -/
noncomputable def SlR (ca : List Addr) (h₀ : Heap) (fr0 hid : List Addr) (h : Heap) (P : List Addr) (v : Value) : V → Prop
  | .d x => Rd hid h v x
  | .own x => ∃ a, v = .ref a ∧ P = [a] ∧ h₀.get? a = none ∧ OwnAt hid h a x
  | .ot l => ∃ t vs n, v = .ref t ∧ h.get? t = some (tupObj vs n) ∧ P.Nodup ∧ PartsR h₀ hid h vs.toList l P
  | .brw x => Rd fr0 h₀ v x
  | .exc c => ExcAt ca c h v

structure StR (G : Gl) (F : Fx) (dep : Nat) (hm : Bool) (A : Around) (pl : List Addr) (op : Nat → List Addr) (ρ : Rho) (h : Heap) : Prop where
  ext : Ext F.fr0 F.h₀ h
  fm : Fm F.env F.own h
  uniq : OwnUniq F.own
  stk : Stk G A h F.fr (F.env :: F.envs0)
  frame : F.env.frame = some F.env.locals
  depth : A.depth + dep ≤ 900
  units : A.units + 20 * dep ≤ 9000
  hok : HOk hm A h
  base0 : G.B.StaysIn F.h₀
  sub0 : ∀ b ∈ F.fr0, b ∈ F.hid0
  dom0 : Dom F.hid0 F.h₀
  newp : ∀ b ∈ F.pls, F.h₀.get? b = none
  newl : ∀ b ∈ pl, F.h₀.get? b = none
  dpl : ∀ b ∈ pl, b ∉ F.pls ∧ ∃ o, h.get? b = some o ∧ NT o
  ops : ∀ i, ∀ a ∈ op i, a ∈ pl
  dis : ∀ i j, i ≠ j → ∀ a ∈ op i, a ∉ op j
  opf : ∀ i, ∀ a ∈ op i, ∃ o, h.get? a = some o ∧ ∀ vs, o.data ≠ .fields vs
  envok : EnvOk G F.cx F.env
  inj : ∀ x y i, F.cx.tb.lookup x = some i → F.cx.tb.lookup y = some i → x = y
  bnd : ∀ x i, F.cx.var x = some i → Bindable F.env F.own x
  len : ρ.length = F.cx.nx
  cok : ∀ x c, F.env.cells.lookup x = some c → ∃ o, h.get? c = some o
  slots : ∀ x i, F.cx.tb.lookup x = some i → ∀ u, ρ[i]? = some (some u) → ∃ v, varAt F.env h x v ∧ SlR G.ca F.h₀ F.fr0 (F.hid pl) h (op i) v u

section
variable {G : Gl} {F : Fx} {dep : Nat} {hm : Bool} {A : Around} {pl : List Addr} {op : Nat → List Addr} {ρ : Rho} {h h' : Heap} {ca : List Addr} {hid : List Addr} {v : Value} {u : V} {P : List Addr}

theorem PartsR.moves {h₁ : Heap} {hid hid' : List Addr} {h h' : Heap} (k : ∀ b o, b ∉ hid → h.get? b = some o → b ∉ hid' ∧ h'.get? b = some o) (ow : ∀ {a : Addr} {x : PyData}, OwnAt hid h a x → h₁.get? a = none → a ∈ P → OwnAt hid' h' a x) :
    ∀ {vs : List Value} {l : List (Bool × PyData)} {as : List Addr}, (∀ a ∈ as, a ∈ P) → PartsR h₁ hid h vs l as → PartsR h₁ hid' h' vs l as
  | [], [], [], _, _ => trivial
  | _ :: _, (false, _) :: _, as, s, ⟨a, b⟩ => ⟨a.move k, PartsR.moves k ow s b⟩
  | _ :: _, (true, _) :: _, _ :: _, s, ⟨a, b, c, d⟩ => ⟨a, b, ow c b (s _ (.head _)), PartsR.moves k ow (fun q hq => s q (.tail _ hq)) d⟩
  | [], [], _ :: _, _, x => nomatch x
  | [], _ :: _, _, _, x => nomatch x
  | _ :: _, [], _, _, x => nomatch x
  | _ :: _, (true, _) :: _, [], _, x => nomatch x
theorem PartsR.notNil {h₁ : Heap} : ∀ {vs : List Value} {l : List (Bool × PyData)} {as : List Addr}, PartsR h₁ hid h vs l as → ∀ a ∈ as, ∃ o, h.get? a = some o ∧ NT o
  | [], [], [], _, a, q => by cases q
  | _ :: _, (false, _) :: _, as, ⟨_, b⟩, a, q => PartsR.notNil b a q
  | _ :: _, (true, _) :: _, c :: _, ⟨_, _, r, d⟩, a, q => by
    rcases List.mem_cons.mp q with rfl | q
    · exact r.there
    · exact PartsR.notNil d a q
  | [], [], _ :: _, x, _, _ => nomatch x
  | [], _ :: _, _, x, _, _ => nomatch x
  | _ :: _, [], _, x, _, _ => nomatch x
  | _ :: _, (true, _) :: _, [], x, _, _ => nomatch x
theorem PartsR.rdAll' {h₁ : Heap} {hid' : List Addr} : ∀ {vs : List Value} {l : List (Bool × PyData)} {as : List Addr}, PartsR h₁ hid h vs l as → (∀ b ∈ hid', b ∈ hid) → (∀ a ∈ as, a ∉ hid') → RdAll hid' h vs (l.map (·.2))
  | [], [], [], _, _, _ => .nil _ _
  | _ :: _, (false, _) :: _, as, ⟨a, b⟩, s, n => .cons (a.anti s) (PartsR.rdAll' b s n)
  | _ :: _, (true, _) :: _, _ :: _, ⟨a, b, c, d⟩, s, n => .cons (a ▸ c.rd (n _ (.head _)) s) (PartsR.rdAll' d s fun q hq => n q (.tail _ hq))
  | [], [], _ :: _, x, _, _ => nomatch x
  | [], _ :: _, _, x, _, _ => nomatch x
  | _ :: _, [], _, x, _, _ => nomatch x
  | _ :: _, (true, _) :: _, [], x, _, _ => nomatch x
theorem OwnAt.moves {hid hid' : List Addr} {a : Addr} {x : PyData} (r : OwnAt hid h a x) (k : ∀ b o, b ∉ hid → h.get? b = some o → b ∉ hid' ∧ h'.get? b = some o) (ka : ∀ o, h.get? a = some o → h'.get? a = some o) : OwnAt hid' h' a x := by
  have k' : ∀ b o, b ∉ a :: hid → h.get? b = some o → b ∉ a :: hid' ∧ h'.get? b = some o := fun b o hb e => by
    obtain ⟨k1, k2⟩ := k b o (fun q => hb (.tail _ q)) e
    exact ⟨fun q => (List.mem_cons.mp q).elim (fun q => hb (q ▸ .head _)) k1, k2⟩
  cases x with
  | list xs => obtain ⟨vs, m, h1, h2⟩ := r; exact ⟨vs, m, ka _ h1, h2.move k'⟩
  | dict kvs => obtain ⟨es, m, h1, h2, h3, h4⟩ := r; exact ⟨es, m, ka _ h1, h2.move k', h3.move k', h4⟩
  | _ => exact r.elim
/-- a slot's content, where the heap changed at hidden places other than its own -/
theorem SlR.moves {h₀ : Heap} {fr0 hid hid' : List Addr} (r : SlR ca h₀ fr0 hid h P v u) (k : ∀ b o, b ∉ hid → h.get? b = some o → b ∉ hid' ∧ h'.get? b = some o) (kP : ∀ a ∈ P, ∀ o, h.get? a = some o → h'.get? a = some o)
    (kt : ∀ b o, h.get? b = some o → ¬ NT o → h'.get? b = some o) (ke : ∀ b o vs C, h.get? b = some o → o.data = .fields vs → o.cls = .ref C → o.dict = none → ∃ o' vs', h'.get? b = some o' ∧ o'.cls = .ref C ∧ o'.dict = none ∧ o'.data = .fields vs') : SlR ca h₀ fr0 hid' h' P v u := by
  cases u with
  | d x => exact Rd.move r k
  | own x => obtain ⟨a, rfl, rfl, n, r⟩ := r; exact ⟨a, rfl, rfl, n, r.moves k (kP a (.head _))⟩
  | ot l =>
    obtain ⟨t, vs, n, rfl, ht, nd, q⟩ := r
    refine ⟨t, vs, n, rfl, kt _ _ ht fun z => z rfl _ _ rfl, nd, PartsR.moves (P := P) k (fun r n m => r.moves k (kP _ m)) (fun _ a => a) q⟩
  | brw x => exact r
  | exc c =>
    obtain ⟨a, o, vs, C, rfl, h1, h2, h3, h4, h5⟩ := r
    obtain ⟨o', vs', q, q3, q4, q5⟩ := ke a o vs C h2 h5 h3 h4
    exact ⟨a, _, vs', C, rfl, h1, q, q3, q4, q5⟩

theorem StR.frsub (R : StR G F dep hm A pl op ρ h) : ∀ b ∈ F.fr, b ∈ F.hid pl := fun b hb => by
  rcases List.mem_cons.mp hb with rfl | hb
  · exact List.mem_append_right _ (List.mem_append_left _ (.head _))
  · exact List.mem_append_right _ (List.mem_append_right _ (R.sub0 b hb))
theorem StR.dom (R : StR G F dep hm A pl op ρ h) : Dom (F.hid pl) h := fun b hb => by
  rcases List.mem_append.mp hb with hb | hb
  · exact (R.dpl b hb).2
  · rcases List.mem_append.mp hb with hb | hb
    · exact R.fm.dom R.uniq b hb
    · exact Dom.ext R.dom0 R.ext b hb
theorem StR.off0 (R : StR G F dep hm A pl op ρ h) {b : Addr} (n : F.h₀.get? b = none) : b ∉ F.fr0 := fun q => R.dom0.fresh n (R.sub0 b q)
theorem StR.sit (R : StR G F dep hm A pl op ρ h) : Sit G dep F.cx F.env hm A h (F.hid pl) F.fr (F.env :: F.envs0) ρ := by
  refine ⟨R.stk, R.depth, R.units, R.hok, R.frsub, R.dom, R.envok, fun x i hx u hu => ?_, R.len, R.cok⟩
  obtain ⟨v, va, r⟩ := R.slots x i hx u hu
  refine ⟨v, va, ?_⟩
  cases u with
  | d x => exact r
  | own x =>
    obtain ⟨a, rfl, e, n, r⟩ := r
    refine r.rd (fun q => ?_) R.frsub
    rcases List.mem_cons.mp q with q | q
    · exact (R.dpl a (R.ops i a (by rw [e]; exact .head _))).1 (q ▸ .head _)
    · exact R.off0 n q
  | ot l =>
    obtain ⟨t, vs, n, rfl, ht, nd, q⟩ := r
    refine Rd.tuple (fun hb => R.dom.notup _ (R.frsub _ hb) _ ht rfl _ _ rfl) ht (PartsR.rdAll' q R.frsub ?_)
    intro a ha hb
    rcases List.mem_cons.mp hb with z | z
    · exact (R.dpl a (R.ops i a ha)).1 (z ▸ .head _)
    · exact R.off0 (R.newl a (R.ops i a ha)) z
  | brw x =>
    refine low_TR R.dom (Rd.move r fun b o hb e => ⟨fun q => ?_, (R.ext b o e).1 hb⟩)
    rcases List.mem_cons.mp q with rfl | q
    · rw [R.newp _ (.head _)] at e; cases e
    · exact hb q
  | exc c => exact r

theorem Ext.down {fr fr0 : List Addr} {h h' h₀ : Heap} (x : Ext fr h h') (x0 : Ext fr0 h₀ h) (n : ∀ b ∈ fr, b ∉ fr0 → h₀.get? b = none) : Ext fr0 h₀ h' := fun b o e => by
  obtain ⟨y1, sl, y2⟩ := x0 b o e
  obtain ⟨z1, sl', z2⟩ := x b _ y2
  refine ⟨fun hb => ?_, sl', z2⟩
  refine (x b o (y1 hb)).1 fun q => ?_
  rw [n b q hb] at e; cases e
/-- the heap grew, and its frames' slots may have changed; new own places -/
theorem StR.grow (R : StR G F dep hm A pl op ρ h) (x : Ext F.fr h h') {N : List Addr} (hN : ∀ b ∈ N, h.get? b = none ∧ ∃ o, h'.get? b = some o ∧ NT o) : StR G F dep hm A (N ++ pl) op ρ h' := by
  have frn : ∀ b ∈ F.fr, b ∉ F.fr0 → F.h₀.get? b = none := fun b hb n => by
    rcases List.mem_cons.mp hb with rfl | hb
    · exact R.newp _ (.head _)
    · exact absurd hb n
  have Np : ∀ b ∈ N, b ∉ F.pls := fun b hb q => by
    obtain ⟨o, z, _⟩ := R.fm.dom R.uniq b q
    rw [(hN b hb).1] at z; cases z
  refine ⟨x.down R.ext frn, ?_, R.uniq, R.stk.ext x, R.frame, R.depth, R.units, R.hok.ext x, R.base0, R.sub0, R.dom0, R.newp, fun b hb => ?_, fun b hb => ?_, fun i a ha => List.mem_append_right _ (R.ops i a ha), R.dis, fun i a ha => (by obtain ⟨o, e1, e2⟩ := R.opf i a ha; obtain ⟨_, sl, e3⟩ := x a o e1; exact ⟨_, e3, e2⟩), R.envok, R.inj, R.bnd, R.len, fun y c q => x.dom (R.cok y c q), fun y i hy u hu => ?_⟩
  · obtain ⟨m, n⟩ := R.fm.ns
    exact ⟨R.fm.kf, ⟨m, x.ns n⟩, fun y c e => let ⟨w, z⟩ := R.fm.cell y c e; ⟨w, x.cell z⟩, R.fm.look, R.fm.inj⟩
  · rcases List.mem_append.mp hb with hb | hb
    · exact R.ext.gone (hN b hb).1
    · exact R.newl b hb
  · rcases List.mem_append.mp hb with hb | hb
    · exact ⟨Np b hb, (hN b hb).2⟩
    · obtain ⟨q, o, z1, z2⟩ := R.dpl b hb
      obtain ⟨_, sl, z3⟩ := x b o z1
      exact ⟨q, _, z3, z2⟩
  · obtain ⟨v, va, r⟩ := R.slots y i hy u hu
    have nfr : ∀ b ∈ pl, b ∉ F.fr := fun b hb q => by
      rcases List.mem_cons.mp q with q | q
      · exact (R.dpl b hb).1 (q ▸ .head _)
      · exact R.off0 (R.newl b hb) q
    refine ⟨v, va.ext x, SlR.moves r (fun b o hb e => ⟨fun q => ?_, (x b o e).1 fun q => hb (R.frsub b q)⟩) (fun a ha o e => (x a o e).1 (nfr a (R.ops i a ha))) (fun b o e nt => (x b o e).1 fun q => nt (R.dom.notup b (R.frsub b q) o e)) fun b o vs C e d c di => let ⟨sl, q⟩ := (x b o e).2; ⟨_, vs, q, c, di, d⟩⟩
    rcases List.mem_append.mp q with q | q
    · rcases List.mem_append.mp q with q | q
      · rw [(hN b q).1] at e; cases e
      · exact hb (List.mem_append_left _ q)
    · exact hb (List.mem_append_right _ q)
theorem StR.step (R : StR G F dep hm A pl op ρ h) (x : Ext F.fr h h') : StR G F dep hm A pl op ρ h' := by
  simpa using R.grow (N := []) x (fun b hb => by cases hb)

/-- changes at places of the frame itself -/
theorem StR.chg (R : StR G F dep hm A pl op ρ h) {Z pl' : List Addr} {op' : Nat → List Addr} {ρ' : Rho} (k : ∀ b o, b ∉ Z → h.get? b = some o → h'.get? b = some o) (hZ : ∀ b ∈ Z, b ∈ F.hid pl ∧ F.h₀.get? b = none) (hH : ∀ e, A.handled = some (.ref e) → e ∉ Z)
    (fm : Fm F.env F.own h') (sub : ∀ b ∈ pl', b ∈ pl) (dpl : ∀ b ∈ pl', ∃ o, h'.get? b = some o ∧ NT o) (ops : ∀ i, ∀ a ∈ op' i, a ∈ pl') (dis : ∀ i j, i ≠ j → ∀ a ∈ op' i, a ∉ op' j) (opf : ∀ i, ∀ a ∈ op' i, ∃ o, h'.get? a = some o ∧ ∀ vs, o.data ≠ .fields vs) (len : ρ'.length = F.cx.nx) (cok : ∀ y b, F.env.cells.lookup y = some b → b ∈ Z → ∃ o, h'.get? b = some o) (fr : F.env.locals ∈ Z → ∃ o, h'.get? F.env.locals = some o ∧ ∀ vs, o.data ≠ .fields vs)
    (slots : ∀ x i, F.cx.tb.lookup x = some i → ∀ u, ρ'[i]? = some (some u) → ∃ v, varAt F.env h' x v ∧ SlR G.ca F.h₀ F.fr0 (F.hid pl') h' (op' i) v u) : StR G F dep hm A pl' op' ρ' h' := by
  have x0 : Ext F.fr0 F.h₀ h' := R.ext.on (P := fun b => b ∉ Z) k fun b o e q => by rw [(hZ b q).2] at e; cases e
  refine ⟨x0, fm, R.uniq, ⟨R.stk.frames, R.stk.fr, ?_, ?_⟩, R.frame, R.depth, R.units, ?_, R.base0, R.sub0, R.dom0, R.newp, fun b hb => R.newl b (sub b hb), fun b hb => ⟨(R.dpl b (sub b hb)).1, dpl b hb⟩, ops, dis, opf, R.envok, R.inj, R.bnd, len, fun y c q => ?_, slots⟩
  · have funs := R.stk.funs
    obtain ⟨f1, ⟨L, o, f2, f3, f4, f5⟩, f6⟩ := funs
    have eL : L = F.env.locals := by rw [R.frame] at f2; exact (Option.some.inj f2).symm
    refine ⟨f1, ?_, ?_⟩
    · by_cases q : F.env.locals ∈ Z
      · obtain ⟨o', q1, q2⟩ := fr q
        exact ⟨L, o', f2, f3, by rw [eL]; exact q1, q2⟩
      · exact ⟨L, o, f2, f3, k L o (by rw [eL]; exact q) f4, f5⟩
    · have aux : ∀ {l : List Env}, h.FunFrames G.B l → (∀ b ∈ l.filterMap (·.frame), b ∉ Z) → h'.FunFrames G.B l := by
        intro l
        induction l with
        | nil => intro _ _; trivial
        | cons e l ih =>
          intro ⟨g1, ⟨L', o', g2, g3, g4, g5⟩, g6⟩ hz
          refine ⟨g1, ⟨L', o', g2, g3, k L' o' (hz L' ?_) g4, g5⟩, ih g6 fun b hb => hz b ?_⟩
          · rw [List.filterMap_cons]; simp [g2]
          · rw [List.filterMap_cons]; simp [g2]; exact .inr (by simpa using hb)
      refine aux f6 fun b hb q => ?_
      have e := R.stk.fr
      unfold Fx.fr at e
      rw [List.filterMap_cons] at e
      simp only [R.frame] at e
      have e0 : F.fr0 = F.envs0.filterMap (·.frame) := (List.cons.inj e).2
      rw [← e0] at hb
      exact R.off0 (hZ b q).2 hb
  · exact fun b o e => k b o (fun q => by have := R.base0 b o e; rw [(hZ b q).2] at this; cases this) (R.stk.base b o e)
  · rcases R.hok with q | ⟨q, e, e1, o, vs, q1, q2, q3⟩
    · exact .inl q
    · exact .inr ⟨q, e, e1, o, vs, k e o (hH e e1) q1, q2, q3⟩
  · by_cases z : c ∈ Z
    · exact cok y c q z
    · obtain ⟨o, e⟩ := R.cok y c q; exact ⟨o, k c o z e⟩

/-- what a run leaves as it was: all but the frame's own -/
structure Adv (F : Fx) (pl : List Addr) (op : Nat → List Addr) (h : Heap) (pl' : List Addr) (op' : Nat → List Addr) (h' : Heap) : Prop where
  keep : ∀ b o, b ∉ F.fr → b ∉ F.pls → (∀ i, b ∉ op i) → h.get? b = some o → h'.get? b = some o ∧ ∀ i, b ∉ op' i
  out : ∀ b o, b ∉ F.hid pl → h.get? b = some o → b ∉ F.hid pl'
  junk : ∀ b ∈ pl, (∀ i, b ∉ op i) → b ∈ pl'
theorem Adv.refl (F : Fx) (pl : List Addr) (op : Nat → List Addr) (h : Heap) : Adv F pl op h pl op h := ⟨fun _ _ _ _ z e => ⟨e, z⟩, fun _ _ q _ => q, fun _ q _ => q⟩
theorem Adv.trans {F : Fx} {pl pl' pl'' : List Addr} {op op' op'' : Nat → List Addr} {h h' h'' : Heap} (x : Adv F pl op h pl' op' h') (y : Adv F pl' op' h' pl'' op'' h'') (fr : ∀ b ∈ F.fr, b ∈ F.hid pl) (sub : ∀ i, ∀ a ∈ op i, a ∈ pl) (dj : ∀ b ∈ pl, ∃ o, h.get? b = some o) (jf : ∀ b ∈ pl, b ∉ F.fr ∧ b ∉ F.pls) : Adv F pl op h pl'' op'' h'' := by
  refine ⟨fun b o q1 q2 q3 e => ?_, fun b o q e => ?_, fun b q z => ?_⟩
  · obtain ⟨e1, z1⟩ := x.keep b o q1 q2 q3 e
    exact y.keep b o q1 q2 z1 e1
  · have q1 : b ∉ F.fr := fun z => q (fr b z)
    have q2 : b ∉ F.pls := fun z => q (List.mem_append_right _ (List.mem_append_left _ z))
    obtain ⟨e1, _⟩ := x.keep b o q1 q2 (fun i z => q (List.mem_append_left _ (sub i b z))) e
    exact y.out b o (x.out b o q e) e1
  · obtain ⟨o, e⟩ := dj b q
    obtain ⟨_, z1⟩ := x.keep b o (jf b q).1 (jf b q).2 z e
    exact y.junk b (x.junk b q z) z1
theorem StR.plfr (R : StR G F dep hm A pl op ρ h) : ∀ b ∈ pl, b ∉ F.fr ∧ b ∉ F.pls := fun b hb => by
  refine ⟨fun q => ?_, (R.dpl b hb).1⟩
  rcases List.mem_cons.mp q with q | q
  · exact (R.dpl b hb).1 (q ▸ .head _)
  · exact R.off0 (R.newl b hb) q
theorem StR.adv (R : StR G F dep hm A pl op ρ h) {pl' pl'' : List Addr} {op' op'' : Nat → List Addr} {h'' : Heap} (x : Adv F pl op h pl' op' h') (y : Adv F pl' op' h' pl'' op'' h'') : Adv F pl op h pl'' op'' h'' :=
  x.trans y R.frsub R.ops (fun b hb => let ⟨_, o, e, _⟩ := R.dpl b hb; ⟨o, e⟩) R.plfr
theorem StR.advGrow (R : StR G F dep hm A pl op ρ h) (x : Ext F.fr h h') {N : List Addr} (hN : ∀ b ∈ N, h.get? b = none) : Adv F pl op h (N ++ pl) op h' := by
  refine ⟨fun b o q1 _ q3 e => ⟨(x b o e).1 q1, q3⟩, fun b o q e z => ?_, fun b q _ => List.mem_append_right _ q⟩
  rcases List.mem_append.mp z with z | z
  · rcases List.mem_append.mp z with z | z
    · rw [hN b z] at e; cases e
    · exact q (List.mem_append_left _ z)
  · exact q (List.mem_append_right _ z)
theorem StR.advStep (R : StR G F dep hm A pl op ρ h) (x : Ext F.fr h h') : Adv F pl op h pl op h' := by simpa using R.advGrow (N := []) x (fun b hb => by cases hb)
/-- data that lay outside the hidden places lie there still -/
theorem Adv.rd {h' : Heap} {pl' : List Addr} {op' : Nat → List Addr} (R : StR G F dep hm A pl op ρ h) (x : Adv F pl op h pl' op' h') {y : PyData} (r : Rd (F.hid pl) h v y) : Rd (F.hid pl') h' v y :=
  r.move fun b o hb e => ⟨x.out b o hb e, (x.keep b o (fun z => hb (R.frsub b z)) (fun z => hb (List.mem_append_right _ (List.mem_append_left _ z))) (fun i z => hb (List.mem_append_left _ (R.ops i b z))) e).1⟩
end
end TC

namespace TC
open PySem PySem.W PyProof.Rows

section
variable {G : Gl} {F : Fx} {Φ : Call} {dep n : Nat} {hm : Bool} {A : Around} {pl : List Addr} {op : Nat → List Addr} {ρ : Rho} {h h' : Heap} {s : Shared} {v : Value} {u u' : V} {P : List Addr} {E : Value → Shared → Prop} {M : Model} {x : Str} {i : Nat}

theorem Fm.data {env : Env} {own : List (Str × Addr)} (f : Fm env own h) (U : OwnUniq own) : ∀ b ∈ placesOf env own, ∃ o, h.get? b = some o ∧ ∀ vs, o.data ≠ .fields vs := fun b hb => by
  rcases List.mem_cons.mp hb with rfl | hb
  · obtain ⟨m, n⟩ := f.ns
    obtain ⟨o, es, ep, ho, hd⟩ := ns_data n
    exact ⟨o, ho, fun vs q => by rw [hd] at q; cases q⟩
  · obtain ⟨⟨x, c⟩, hm, rfl⟩ := List.mem_map.mp hb
    obtain ⟨v, o, ho, hd⟩ := f.cell x c (U x c hm)
    exact ⟨o, ho, fun vs q => by rw [hd] at q; cases q⟩
/-- the handled exception -/
theorem StR.hnd (R : StR G F dep hm A pl op ρ h) {e : Addr} (q : A.handled = some (.ref e)) : ∃ o vs, h.get? e = some o ∧ o.data = .fields vs := by
  rcases R.hok with z | ⟨z, e', e1, o, vs, q1, q2, q3⟩
  · rw [z.2] at q; cases q
  · rw [e1] at q; cases q; exact ⟨o, vs, q1, q2⟩
theorem StR.plsZ (R : StR G F dep hm A pl op ρ h) : ∀ b ∈ F.pls, b ∈ F.hid pl ∧ F.h₀.get? b = none ∧ ∀ o vs, h.get? b = some o → o.data ≠ .fields vs := fun b hb =>
  ⟨List.mem_append_right _ (List.mem_append_left _ hb), R.newp b hb, fun o vs e d => by obtain ⟨o', e', z⟩ := R.fm.data R.uniq b hb; rw [e] at e'; cases e'; exact z vs d⟩
/-- a slot's content, where the frame's own storage changed -/
theorem StR.keepSl (R : StR G F dep hm A pl op ρ h) (k : ∀ b o, b ∉ F.pls → h.get? b = some o → h'.get? b = some o) (hP : ∀ a ∈ P, a ∈ pl) (r : SlR G.ca F.h₀ F.fr0 (F.hid pl) h P v u) : SlR G.ca F.h₀ F.fr0 (F.hid pl) h' P v u := by
  refine r.moves (fun b o hb e => ⟨hb, k b o (fun q => hb (R.plsZ b q).1) e⟩) (fun a ha o e => k a o (R.dpl a (hP a ha)).1 e) (fun b o e nt => k b o (fun q => nt (R.dom.notup b (R.plsZ b q).1 o e)) e) fun b o vs C e d c di => ⟨o, vs, k b o (fun q => (R.plsZ b q).2.2 o vs e d) e, c, di, d⟩

theorem StR.store (R : StR G F dep hm A pl op ρ s.heap) (hv : F.cx.var x = some i) (r : SlR G.ca F.h₀ F.fr0 (F.hid pl) s.heap P v u) (hP : ∀ a ∈ P, a ∈ pl) (hPf : ∀ a ∈ P, ∃ o, s.heap.get? a = some o ∧ ∀ vs, o.data ≠ .fields vs) (hd : ∀ j, j ≠ i → ∀ a ∈ P, a ∉ op j) {Q : Unit → Shared → Prop}
    (h : ∀ h' tk, StR G F dep hm A pl (fun j => if j = i then P else op j) (ρ.set i (some u)) h' → (∀ b o, b ∉ F.pls → s.heap.get? b = some o → h'.get? b = some o) → Q () { s with heap := h', toks := tk }) : wpAny M A (storeName F.env x v) Q E s := by
  obtain ⟨v1, v2, v3⟩ := var_inv hv
  refine store_ok R.fm (R.bnd x i hv) fun h' tk fm k a o => h h' tk ?_ k
  refine R.chg (Z := F.pls) k (fun b hb => ⟨(R.plsZ b hb).1, (R.plsZ b hb).2.1⟩) (fun e q z => by obtain ⟨o, vs, q1, q2⟩ := R.hnd q; exact (R.plsZ e z).2.2 o vs q1 q2) fm (fun _ b => b) (fun b hb => ?_) (fun j b hb => ?_) (fun j l ne b hb => ?_) (fun j b hb => ?_) (by simp [R.len]) (fun _ b _ hb => let ⟨o, e, _⟩ := fm.dom R.uniq b hb; ⟨o, e⟩) (fun _ => fm.data R.uniq _ (.head _)) fun y j hy w hw => ?_
  · obtain ⟨q, o', e1, e2⟩ := R.dpl b hb
    exact ⟨o', k b o' q e1, e2⟩
  · split at hb
    · exact hP b hb
    · exact R.ops j b hb
  · split at hb
    · rename_i q; subst q
      rw [if_neg (Ne.symm ne)]; exact hd l (Ne.symm ne) b hb
    · split
      · rename_i q; subst q; exact fun z => hd j ne b z hb
      · exact R.dis j l ne b hb
  · split at hb
    · obtain ⟨o', e1, e2⟩ := hPf b hb; exact ⟨o', k b o' (R.dpl b (hP b hb)).1 e1, e2⟩
    · obtain ⟨o', e1, e2⟩ := R.opf j b hb; exact ⟨o', k b o' (R.dpl b (R.ops j b hb)).1 e1, e2⟩
  · by_cases q : j = i
    · subst q
      obtain rfl := R.inj y x j hy v2
      by_cases lt : j < ρ.length
      · rw [List.getElem?_set_self lt] at hw
        cases hw
        refine ⟨v, a, ?_⟩
        rw [if_pos rfl]; exact R.keepSl k hP r
      · rw [List.set_eq_of_length_le (by omega), List.getElem?_eq_none (by omega)] at hw; cases hw
    · rw [List.getElem?_set_ne (Ne.symm q)] at hw
      obtain ⟨w', va, r'⟩ := R.slots y j hy w hw
      refine ⟨w', o y w' (fun z => ?_) va, ?_⟩
      · subst z; rw [v2] at hy; cases hy; exact q rfl
      · rw [if_neg q]; exact R.keepSl k (R.ops j) r'

theorem PartsR.fresh {h₁ : Heap} {hid : List Addr} : ∀ {vs : List Value} {l : List (Bool × PyData)} {as : List Addr}, PartsR h₁ hid h vs l as → ∀ a ∈ as, h₁.get? a = none
  | [], [], [], _, a, q => by cases q
  | _ :: _, (false, _) :: _, as, ⟨_, b⟩, a, q => PartsR.fresh b a q
  | _ :: _, (true, _) :: _, c :: _, ⟨_, n, r, d⟩, a, q => by
    rcases List.mem_cons.mp q with rfl | q
    · exact n
    · exact PartsR.fresh d a q
  | [], [], _ :: _, x, _, _ => nomatch x
  | [], _ :: _, _, x, _, _ => nomatch x
  | _ :: _, [], _, x, _, _ => nomatch x
  | _ :: _, (true, _) :: _, [], x, _, _ => nomatch x
theorem PartsR.base {h₁ h₀ : Heap} {hid : List Addr} (k : ∀ a, h₁.get? a = none → h₀.get? a = none) : ∀ {vs : List Value} {l : List (Bool × PyData)} {as : List Addr}, PartsR h₁ hid h vs l as → PartsR h₀ hid h vs l as
  | [], [], [], _ => trivial
  | _ :: _, (false, _) :: _, as, ⟨a, b⟩ => ⟨a, PartsR.base k b⟩
  | _ :: _, (true, _) :: _, c :: _, ⟨a, n, r, d⟩ => ⟨a, k _ n, r, PartsR.base k d⟩
  | [], [], _ :: _, x => nomatch x
  | [], _ :: _, _, x => nomatch x
  | _ :: _, [], _, x => nomatch x
  | _ :: _, (true, _) :: _, [], x => nomatch x
theorem OwnAt.notFields {hid : List Addr} {a : Addr} {x : PyData} (r : OwnAt hid h a x) : ∃ o, h.get? a = some o ∧ ∀ vs, o.data ≠ .fields vs := by
  cases x with
  | list xs => obtain ⟨vs, m, h1, h2⟩ := r; exact ⟨_, h1, fun vs e => by cases e⟩
  | dict kvs => obtain ⟨es, m, h1, _⟩ := r; exact ⟨_, h1, fun vs e => by cases e⟩
  | _ => exact r.elim
theorem PartsR.notFields {h₁ : Heap} {hid : List Addr} : ∀ {vs : List Value} {l : List (Bool × PyData)} {as : List Addr}, PartsR h₁ hid h vs l as → ∀ a ∈ as, ∃ o, h.get? a = some o ∧ ∀ vs, o.data ≠ .fields vs
  | [], [], [], _, a, q => by cases q
  | _ :: _, (false, _) :: _, as, ⟨_, b⟩, a, q => PartsR.notFields b a q
  | _ :: _, (true, _) :: _, c :: _, ⟨_, n, r, d⟩, a, q => by
    rcases List.mem_cons.mp q with rfl | q
    · exact r.notFields
    · exact PartsR.notFields d a q
  | [], [], _ :: _, x, _, _ => nomatch x
  | [], _ :: _, _, x, _, _ => nomatch x
  | _ :: _, [], _, x, _, _ => nomatch x
  | _ :: _, (true, _) :: _, [], x, _, _ => nomatch x
theorem keep_slot (R : StR G F dep hm A pl op ρ h) (x : Ext F.fr h h') {o : Bool} (r : TR G.ca h (F.hid pl) F.fr h' v u) (e : keepV o u = some u') :
    ∃ N, (∀ b ∈ N, h.get? b = none ∧ ∃ o, h'.get? b = some o ∧ NT o) ∧ (∀ b ∈ N, ∃ o, h'.get? b = some o ∧ ∀ vs, o.data ≠ .fields vs) ∧ SlR G.ca F.h₀ F.fr0 (F.hid (N ++ pl)) h' N v u' := by
  have D1 := R.dom
  have D2 := (R.step x).dom
  have plain : ∀ y, kp u = some y → u' = .d y → ∃ N, (∀ b ∈ N, h.get? b = none ∧ ∃ o, h'.get? b = some o ∧ NT o) ∧ (∀ b ∈ N, ∃ o, h'.get? b = some o ∧ ∀ vs, o.data ≠ .fields vs) ∧ SlR G.ca F.h₀ F.fr0 (F.hid (N ++ pl)) h' N v u' := fun y e1 e2 => by
    subst e2
    exact ⟨[], (fun b hb => by cases hb), (fun b hb => by cases hb), r.keep D1 D2 e1⟩
  cases u with
  | own y =>
    cases o with
    | false => cases e; exact plain _ rfl rfl
    | true =>
      cases e
      obtain ⟨a, rfl, n, r⟩ := r
      refine ⟨[a], fun b hb => ?_, fun b hb => ?_, a, rfl, rfl, R.ext.gone n, ?_⟩
      · rw [List.mem_singleton.mp hb]; exact ⟨n, r.there⟩
      · rw [List.mem_singleton.mp hb]; exact r.notFields
      · have q : ∀ b ∈ a :: F.hid ([a] ++ pl), b ∈ a :: F.hid pl := fun b hb => by
          rcases List.mem_cons.mp hb with rfl | hb
          · exact .head _
          · rcases List.mem_append.mp hb with hb | hb
            · rcases List.mem_append.mp hb with hb | hb
              · rw [List.mem_singleton.mp hb]; exact .head _
              · exact .tail _ (List.mem_append_left _ hb)
            · exact .tail _ (List.mem_append_right _ hb)
        cases y with
        | list xs => obtain ⟨vs, m, h1, h2⟩ := r; exact ⟨vs, m, h1, h2.anti q⟩
        | dict kvs => obtain ⟨es, m, h1, h2, h3, h4⟩ := r; exact ⟨es, m, h1, h2.anti q, h3.anti q, h4⟩
        | _ => exact r.elim
  | ot l =>
    cases o with
    | false => cases e; exact plain _ rfl rfl
    | true =>
      cases e
      obtain ⟨t, vs, n, as, rfl, ht, nd, q⟩ := r
      have eh : F.hid (as ++ pl) = as ++ F.hid pl := List.append_assoc ..
      refine ⟨as, fun b hb => ⟨q.fresh b hb, q.notNil b hb⟩, fun b hb => q.notFields b hb, t, vs, n, rfl, ht, nd, ?_⟩
      rw [eh]
      exact q.base fun a z => R.ext.gone z
  | d y => cases e; exact plain _ rfl rfl
  | brw y => obtain ⟨z, e1, e2⟩ := Option.map_eq_some_iff.mp (show (kp (.brw y)).map V.d = some u' from e); exact plain z e1 e2.symm
  | exc c => cases e

/-- a slot written anew; the places that go with it were not there at the start -/
theorem StR.advPut {h1 : Heap} {pl1 : List Addr} (R : StR G F dep hm A pl op ρ h) (y : Adv F pl op h pl1 op h1) (k : ∀ b o, b ∉ F.pls → h1.get? b = some o → h'.get? b = some o) (hP : ∀ a ∈ P, h.get? a = none) : Adv F pl op h pl1 (fun j => if j = i then P else op j) h' := by
  refine ⟨fun b o q1 q2 q3 e => ?_, y.out, fun b q z => y.junk b q z⟩
  obtain ⟨e1, z1⟩ := y.keep b o q1 q2 q3 e
  refine ⟨k b o q2 e1, fun j hb => ?_⟩
  split at hb
  · rw [hP b hb] at e; cases e
  · exact q3 j hb
end
end TC

namespace TC
open PySem PySem.W PyProof.Rows

/-- the ends of a statement -/
structure Out (G : Gl) (F : Fx) (dep : Nat) (hm : Bool) (A : Around) (pl : List Addr) (op : Nat → List Addr) (s : Shared) (K : TC.Flow → Rho → Prop) (X : Nat → Rho → Prop) (Q : PySem.Flow → Shared → Prop) (E : Value → Shared → Prop) : Prop where
  nxt : ∀ s' pl' op' ρ, StR G F dep hm A pl' op' ρ s'.heap → Adv F pl op s.heap pl' op' s'.heap → Same s s' → K .nxt ρ → Q .next s'
  ret : ∀ s' v u pl op ρ ρ', StR G F dep hm A pl op ρ' s'.heap → TR G.ca F.h₀ (F.pls ++ F.hid0) F.fr0 s'.heap v u → Same s s' → K (.ret u) ρ → Q (.ret v) s'
  exc : ∀ s' e c C fl pl op ρ, StR G F dep hm A pl op ρ s'.heap → G.ca[c]? = some C → (fl = .none ∨ fl = rawInt F.env.locals) → Fly F.h₀ e C fl s'.heap → Same s s' → X c ρ → E (.ref e) s'

section
variable {G : Gl} {F : Fx} {Φ : Call} {dep n : Nat} {hm : Bool} {A : Around} {pl : List Addr} {op : Nat → List Addr} {ρ : Rho} {h h' : Heap} {s s₁ : Shared} {v : Value} {u u' : V} {P : List Addr} {E : Value → Shared → Prop} {M : Model} {x : Str} {i : Nat} {K : TC.Flow → Rho → Prop} {X : Nat → Rho → Prop} {Q : PySem.Flow → Shared → Prop}

theorem Out.thrown (o : Out G F dep hm A pl op s K X Q E) (R : StR G F dep hm A pl op ρ s.heap) : Thrown G F.fr s (X · ρ) E := fun e s' c ⟨C, h1, h2, h3⟩ m hx => o.exc s' e c C _ pl op ρ (R.step h3) h1 (.inl rfl) (h2.back R.ext) m hx
theorem Out.from {pl1 : List Addr} {op1 : Nat → List Addr} (o : Out G F dep hm A pl op s K X Q E) (R : StR G F dep hm A pl op ρ s.heap) (a : Adv F pl op s.heap pl1 op1 s₁.heap) (m : Same s s₁) : Out G F dep hm A pl1 op1 s₁ K X Q E :=
  ⟨fun s' pl op ρ R' a' m' k => o.nxt s' pl op ρ R' (R.adv a a') (m.trans m') k, fun s' v u pl op ρ ρ' R r m' k => o.ret s' v u pl op ρ ρ' R r (m.trans m') k, fun s' e c C fl pl op ρ R h1 h2 h3 m' k => o.exc s' e c C fl pl op ρ R h1 h2 h3 (m.trans m') k⟩

theorem new_dis (R : StR G F dep hm A pl op ρ h) {N : List Addr} (hN : ∀ b ∈ N, h.get? b = none ∧ ∃ o, h'.get? b = some o ∧ NT o) : ∀ j, ∀ a ∈ N, a ∉ op j := fun j a ha q => by
  obtain ⟨_, o, z, _⟩ := R.dpl a (R.ops j a q)
  rw [(hN a ha).1] at z; cases z

theorem asg_plain (IH : SE G Φ dep n) {val : Expr} {e : TC.E} {o : Bool} {p pos : Pos} (hv : F.cx.var x = some i) (he : lowE n F.cx val = some e) (hs : swapsWith val (some (.Name x p)) pos.line F.env = pure false) (R : StR G F dep hm A pl op ρ s.heap)
    (w : wpS Φ hm (.asg o i e) ρ K X) (out : Out G F dep hm A pl op s K X Q E) : wpAny (model G.prog G.w) A (exec (.Assign [.Name x p] val pos) F.env) Q E s := by
  refine wpAny_Assign_Name (IH _ _ _ _ _ _ _ _ _ _ _ _ _ _ _ he R.sit w (fun v s₁ u r x1 m1 w1 => ?_) (out.thrown R)) hs
  obtain ⟨u', e1, hk⟩ := got_some w1
  obtain ⟨N, hN, hNf, sl⟩ := keep_slot R x1 r e1
  exact (R.grow x1 hN).store hv sl (fun a ha => List.mem_append_left _ ha) hNf (fun j _ => new_dis R hN j) fun h' tk R2 k2 => out.nxt { s₁ with heap := h', toks := tk } _ _ _ R2 (R.advPut (R.advGrow x1 fun b hb => (hN b hb).1) k2 fun b hb => (hN b hb).1) ⟨m1.1, m1.2⟩ hk

theorem asg_used (O : G.Ok) (IH : SE G Φ dep n) (IT : ST G Φ dep n) {elt t iter : Expr} {ifs : List Expr} {sc : Scope} {pos p0 p : Pos} {topt : Option Nat} {xs : List Str} {src : Src} {step : Rho → (Option PyData → Prop) → Prop} {cx' : Cx} {o : Bool} (hv : F.cx.var x = some i)
    (ht : tgtNames t = some (topt, xs)) (hsr : lowSrcWith (lowE n F.cx) F.cx iter = some src) (hi : F.cx.inner sc xs = some cx') (T : TurnOk G Φ dep n hm cx' ifs elt step) (hs : swapsWith (.ListComp elt [⟨t, iter, ifs, 0⟩] sc p0) (some (.Name x p)) pos.line F.env = pure true)
    (R : StR G F dep hm A pl op ρ s.heap) (w : wpSrc Φ hm src ρ (fun us => compW step topt ρ (fun v => got (keepV o v) fun u => K .nxt (ρ.set i (some u))) us []) (X · ρ)) (out : Out G F dep hm A pl op s K X Q E) :
    wpAny (model G.prog G.w) A (exec (.Assign [.Name x p] (.ListComp elt [⟨t, iter, ifs, 0⟩] sc p0) pos) F.env) Q E s := by
  rw [exec_Assign_Name_used _ _ _ _ hs]
  refine wpAny_bind (wpAny_standAt (wpAny_bind ?_))
  rw [arm_evalThenUse_ListComp]
  refine wpAny_bind (comp_any (use := some (assign (.Name x p) F.env)) O IH IT ht hsr hi T R.sit w (out.thrown R) fun D C s' ws nn ys m x2 m2 d1 d2 d3 hd r ns hk => ?_)
  have ntC : ∃ o, s'.heap.get? C = some o ∧ NT o ∧ ∀ vs, o.data ≠ .fields vs := by
    obtain ⟨o, es, ep, ho, hdd⟩ := ns_data ns
    exact ⟨o, ho, (fun _ vs k q => by rw [hdd] at q; cases q), fun vs q => by rw [hdd] at q; cases q⟩
  obtain ⟨u, e1, hk⟩ := got_some hk
  have Cpl : C ∉ pl := fun q => by obtain ⟨_, oo, z, _⟩ := R.dpl C q; rw [d2] at z; cases z
  have key : ∃ N, D ∉ pl ∧ (N = [D] ∨ N = []) ∧ SlR G.ca F.h₀ F.fr0 (F.hid (N ++ ([C] ++ pl))) s'.heap N (.ref D) u := by
    have Dpl : D ∉ pl := fun q => by obtain ⟨_, oo, z, _⟩ := R.dpl D q; rw [d1] at z; cases z
    cases o with
    | true =>
      cases e1
      refine ⟨[D], Dpl, .inl rfl, D, rfl, rfl, R.ext.gone d1, ws, nn, hd, r.anti fun b hb => ?_⟩
      rcases List.mem_cons.mp hb with rfl | hb
      · exact .head _
      · rcases List.mem_append.mp hb with hb | hb
        · rcases List.mem_append.mp hb with hb | hb
          · rw [List.mem_singleton.mp hb]; exact .head _
          · rcases List.mem_append.mp hb with hb | hb
            · rw [List.mem_singleton.mp hb]; exact .tail _ (.head _)
            · exact .tail _ (.tail _ (List.mem_append_left _ hb))
        · exact .tail _ (.tail _ (List.mem_append_right _ hb))
    | false =>
      cases e1
      have Dh : D ∉ F.hid ([C] ++ pl) := fun q => by
        rcases List.mem_append.mp q with q | q
        · rcases List.mem_append.mp q with q | q
          · exact d3 (List.mem_singleton.mp q).symm
          · exact Dpl q
        · exact R.dom.fresh d1 (List.mem_append_right _ q)
      refine ⟨[], Dpl, .inr rfl, Rd.list Dh hd (r.anti fun b hb => ?_)⟩
      rcases List.mem_append.mp (show b ∈ ([C] ++ pl) ++ (F.pls ++ F.hid0) from hb) with hb | hb
      · rcases List.mem_append.mp hb with hb | hb
        · rw [List.mem_singleton.mp hb]; exact .tail _ (.head _)
        · exact .tail _ (.tail _ (List.mem_append_left _ hb))
      · exact .tail _ (.tail _ (List.mem_append_right _ hb))
  obtain ⟨N, Dpl, hN, sl⟩ := key
  have hNC : ∀ b ∈ N ++ [C], s.heap.get? b = none ∧ ∃ o, s'.heap.get? b = some o ∧ NT o := fun b hb => by
    rcases List.mem_append.mp hb with hb | hb
    · rcases hN with rfl | rfl
      · rw [List.mem_singleton.mp hb]; exact ⟨d1, _, hd, fun e => by simp at e⟩
      · cases hb
    · rw [List.mem_singleton.mp hb]; obtain ⟨oo, z1, z2, _⟩ := ntC; exact ⟨d2, oo, z1, z2⟩
  have R1 := R.grow x2 hNC
  rw [List.append_assoc] at R1
  show wpAny (model G.prog G.w) A (do standAt p; bindName F.env x (.ref D)) _ E s'
  refine wpAny_bind (wpAny_standAt (wpAny_bindName (R1.store hv sl (fun a ha => List.mem_append_left _ ha) (fun a ha => ?_) (fun j _ a ha => new_dis R hNC j a (List.mem_append_left _ ha)) fun h2 tk R2 k2 => ?_)))
  · rcases hN with rfl | rfl
    · rw [List.mem_singleton.mp ha]; exact ⟨_, hd, fun vs e => by cases e⟩
    · cases ha
  have Cin : C ∈ N ++ ([C] ++ pl) := List.mem_append_right _ (.head _)
  have CN : C ∉ N := fun q => by rcases hN with rfl | rfl; exact d3 (List.mem_singleton.mp q); cases q
  have Cp : C ∉ F.pls := (R1.dpl C Cin).1
  refine ⟨m, ns.at' fun o e => k2 C o Cp e, fun h3 sb => wpAny_pure (wpAny_pure ?_)⟩
  have k3 : ∀ b o, b ∉ [C] → h2.get? b = some o → h3.get? b = some o := fun b o hb e => (sb.2 b fun q => hb (by rw [q]; exact .head _)).trans e
  have pl3 : ∀ b ∈ N ++ pl, b ∈ N ++ ([C] ++ pl) ∧ b ∉ [C] := fun b hb => by
    rcases List.mem_append.mp hb with hb | hb
    · exact ⟨List.mem_append_left _ hb, fun q => CN (List.mem_singleton.mp q ▸ hb)⟩
    · exact ⟨List.mem_append_right _ (.tail _ hb), fun q => Cpl (List.mem_singleton.mp q ▸ hb)⟩
  have hidC : C ∈ F.hid (N ++ ([C] ++ pl)) := List.mem_append_left _ Cin
  have hsub : ∀ b ∈ F.hid (N ++ pl), b ∈ F.hid (N ++ ([C] ++ pl)) := fun b hb => by
    rcases List.mem_append.mp hb with hb | hb
    · exact List.mem_append_left _ (pl3 b hb).1
    · exact List.mem_append_right _ hb
  have ops3 : ∀ j, ∀ a ∈ (if j = i then N else op j), a ∈ N ++ pl := fun j a ha => by
    split at ha
    · exact List.mem_append_left _ ha
    · exact List.mem_append_right _ (R.ops j a ha)
  refine out.nxt { s' with heap := h3, toks := tk } (N ++ pl) (fun j => if j = i then N else op j) (ρ.set i (some u)) ?_ ?_ ⟨m2.1, m2.2⟩ hk
  rotate_left
  · have ad := R.advPut (i := i) (R.advGrow x2 fun b hb => (hNC b hb).1) (h' := h2) k2 (P := N) fun b hb => (hNC b (List.mem_append_left _ hb)).1
    refine ⟨fun b o q1 q2 q3 e => ?_, fun b o q e z => ?_, fun b q z => List.mem_append_right _ q⟩
    · obtain ⟨e1, z1⟩ := ad.keep b o q1 q2 q3 e
      exact ⟨k3 b o (fun z => by rw [List.mem_singleton.mp z, d2] at e; cases e) e1, z1⟩
    · have := ad.out b o q e
      rw [List.append_assoc] at this
      exact this (hsub b z)
  refine R2.chg (Z := [C]) k3 (fun b hb => ?_) (fun e q z => ?_) (R2.fm.on fun b o hb e => k3 b o (fun q => Cp (List.mem_singleton.mp q ▸ hb)) e) (fun b hb => (pl3 b hb).1) (fun b hb => ?_) ops3 R2.dis (fun j b hb => ?_) R2.len (fun y b e hb => ?_) (fun q => ?_) fun y j hy w hw => ?_
  · rw [List.mem_singleton.mp hb]
    exact ⟨hidC, R2.newl C Cin⟩
  · obtain ⟨o, vs, e, d⟩ := R2.hnd q
    rw [List.mem_singleton.mp z] at e
    obtain ⟨oo, z1, _, z3⟩ := ntC
    have := k2 C oo Cp z1
    rw [e] at this; cases this; exact z3 vs d
  · obtain ⟨_, oo, z1, z2⟩ := R2.dpl b (pl3 b hb).1
    exact ⟨oo, k3 b oo (pl3 b hb).2 z1, z2⟩
  · obtain ⟨oo, z1, z2⟩ := R2.opf j b hb
    exact ⟨oo, k3 b oo (pl3 b (ops3 j b hb)).2 z1, z2⟩
  · exfalso
    rw [List.mem_singleton.mp hb] at e
    obtain ⟨oo, z⟩ := R.cok y C e
    rw [d2] at z; cases z
  · exact absurd (List.mem_singleton.mp q ▸ (show F.env.locals ∈ F.pls from .head _)) Cp
  · obtain ⟨w', va, r'⟩ := R2.slots y j hy w hw
    refine ⟨w', ?_, r'.moves (fun b o hb e => ?_) (fun a ha o e => k3 a o (pl3 a (ops3 j a ha)).2 e) (fun b o e nt => k3 b o (fun q => nt ?_) e) fun b o vs C' e d c di => ⟨o, vs, k3 b o (fun q => ?_) e, c, di, d⟩⟩
    · rcases va with ⟨k, m', n', hv'⟩ | ⟨k, c, hc, q⟩
      · exact .inl ⟨k, m', n'.at' fun o e => k3 _ o (fun q => Cp (List.mem_singleton.mp q ▸ (show F.env.locals ∈ F.pls from .head _))) e, hv'⟩
      · refine .inr ⟨k, c, hc, ?_⟩
        obtain ⟨oo, q1, q2⟩ := q
        refine ⟨oo, k3 c oo (fun q => ?_) q1, q2⟩
        obtain ⟨o4, z⟩ := R.cok y c hc
        rw [List.mem_singleton.mp q, d2] at z; cases z
    · exact ⟨fun q => hb (hsub b q), k3 b o (fun q => hb (List.mem_singleton.mp q ▸ hidC)) e⟩
    · rw [List.mem_singleton.mp q] at e; exact R2.dom.notup C hidC o e
    · rw [List.mem_singleton.mp q] at e
      obtain ⟨oo, z1, _, z3⟩ := ntC
      have := k2 C oo Cp z1
      rw [e] at this; cases this; exact z3 vs d
end
end TC

namespace TC
open PySem PySem.W PyProof.Rows

section
variable {G : Gl} {F : Fx} {Φ : Call} {dep n : Nat} {hm : Bool} {A : Around} {pl : List Addr} {op : Nat → List Addr} {ρ : Rho} {h h' : Heap} {s s₁ : Shared} {v : Value} {u u' : V} {P : List Addr} {E : Value → Shared → Prop} {M : Model} {x : Str} {i : Nat} {K : TC.Flow → Rho → Prop} {X : Nat → Rho → Prop} {Q : PySem.Flow → Shared → Prop}

theorem asg_case (O : G.Ok) (IH : SE G Φ dep n) (IT : ST G Φ dep n) (IE : SE G Φ dep (n + 1)) {val : Expr} {e : TC.E} {o : Bool} {p pos : Pos} (hv : F.cx.var x = some i) (he : lowE (n + 1) F.cx val = some e) (R : StR G F dep hm A pl op ρ s.heap)
    (w : wpS Φ hm (.asg o i e) ρ K X) (out : Out G F dep hm A pl op s K X Q E) : wpAny (model G.prog G.w) A (exec (.Assign [.Name x p] val pos) F.env) Q E s := by
  cases val with
  | ListComp elt gens sc p0 =>
    have hb : ∃ b, swapsWith (.ListComp elt gens sc p0) (some (.Name x p)) pos.line F.env = pure b := ⟨_, rfl⟩
    obtain ⟨b, hb⟩ := hb
    cases b with
    | false => exact asg_plain IE hv he hb R w out
    | true =>
      obtain ⟨tg, iter, ifs, rfl, topt, xs, src, cx', e', h1, h2, h3, h4, lo⟩ := lowComp_inv (show lowCompE (lowE n) F.cx elt gens sc = some e from he)
      rcases lo with ⟨rfl, rfl⟩ | ⟨c, c', rfl, h5, rfl⟩
      · exact asg_used O IH IT hv h1 h2 h3 (.inl ⟨e', h4, rfl, rfl⟩) hb R w out
      · exact asg_used O IH IT hv h1 h2 h3 (.inr ⟨e', _, c', h4, rfl, h5, rfl⟩) hb R w out
  | SetComp => cases he
  | DictComp => cases he
  | _ => exact asg_plain IE hv he rfl R w out

/-! return -/
theorem ret_TR (R : StR G F dep hm A pl op ρ h) (x : Ext F.fr h h') (r : TR G.ca h (F.hid pl) F.fr h' v u) (e : retV u = some u') : TR G.ca F.h₀ (F.pls ++ F.hid0) F.fr0 h' v u' := by
  have D1 := R.dom
  have D2 := (R.step x).dom
  have sub : ∀ b ∈ F.pls ++ F.hid0, b ∈ F.hid pl := fun b hb => List.mem_append_right _ hb
  have plain : ∀ y, kp u = some y → u' = .d y → TR G.ca F.h₀ (F.pls ++ F.hid0) F.fr0 h' v u' := fun y e1 e2 => by
    subst e2; exact (r.keep D1 D2 e1).anti sub
  cases u with
  | d y => cases e; exact plain _ rfl rfl
  | own y => cases e; obtain ⟨a, rfl, n, r⟩ := r; exact ⟨a, rfl, R.ext.gone n, r.anti sub⟩
  | ot l =>
    cases e
    obtain ⟨t, vs, n, as, rfl, ht, nd, q⟩ := r
    refine ⟨t, vs, n, as, rfl, ht, nd, (PartsR.moves (P := as) (hid' := as ++ (F.pls ++ F.hid0)) (fun b o hb e => ⟨fun z => hb ?_, e⟩) (fun r _ _ => r.anti fun b hb => ?_) (fun _ a => a) q).base fun a z => R.ext.gone z⟩
    · rcases List.mem_append.mp z with z | z
      · exact List.mem_append_left _ z
      · exact List.mem_append_right _ (sub b z)
    · rcases List.mem_append.mp hb with z | z
      · exact List.mem_append_left _ z
      · exact List.mem_append_right _ (sub b z)
  | brw y => obtain ⟨z, e1, e2⟩ := Option.map_eq_some_iff.mp (show (kp (.brw y)).map V.d = some u' from e); exact plain z e1 e2.symm
  | exc c => cases e
theorem ret_case (IH : SE G Φ dep n) {val : Expr} {e : TC.E} {pos : Pos} (he : lowE n F.cx val = some e) (R : StR G F dep hm A pl op ρ s.heap) (w : wpS Φ hm (.ret e) ρ K X) (out : Out G F dep hm A pl op s K X Q E) :
    wpAny (model G.prog G.w) A (exec (.Return (some val) pos) F.env) Q E s := by
  refine wpAny_Return_some (IH _ _ _ _ _ _ _ _ _ _ _ _ _ _ _ he R.sit w (fun v s₁ u r x1 m1 w1 => ?_) (out.thrown R))
  obtain ⟨u', e1, hk⟩ := got_some w1
  exact out.ret _ _ _ _ _ _ _ (R.step x1) (ret_TR R x1 r e1) m1 hk
theorem retm_case {p pos : Pos} (hv : F.cx.var x = some i) (R : StR G F dep hm A pl op ρ s.heap) (w : wpS Φ hm (.retm i) ρ K X) (out : Out G F dep hm A pl op s K X Q E) :
    wpAny (model G.prog G.w) A (exec (.Return (some (.Name x p)) pos) F.env) Q E s := by
  obtain ⟨h1, h2, h3⟩ := var_inv hv
  obtain ⟨su, e1, w⟩ := got_some w
  obtain ⟨u, rfl, w⟩ := got_some w
  obtain ⟨v, va, r⟩ := R.slots x i h2 u e1
  refine wpAny_Return_some (load_var R.envok.kind (fun q => R.envok.nocd x (by rw [← R.envok.names]; exact q)) h1 va ?_)
  have sub : ∀ b ∈ F.pls ++ F.hid0, b ∈ F.hid pl := fun b hb => List.mem_append_right _ hb
  have D : Dom (F.pls ++ F.hid0) s.heap := fun b hb => R.dom b (sub b hb)
  cases u with
  | d y => exact out.ret s v (.d y) _ _ _ _ R (Rd.anti r sub) (Same.refl _) w
  | own y => obtain ⟨a, rfl, _, n, r⟩ := r; exact out.ret s _ (.own y) _ _ _ _ R ⟨a, rfl, n, r.anti sub⟩ (Same.refl _) w
  | ot l =>
    obtain ⟨t, vs, n, rfl, ht, nd, q⟩ := r
    refine out.ret s _ (.ot l) _ _ _ _ R ⟨t, vs, n, op i, rfl, ht, nd, PartsR.moves (P := op i) (hid' := op i ++ (F.pls ++ F.hid0)) (fun b o hb e => ⟨fun z => hb ?_, e⟩) (fun r _ _ => r.anti fun b hb => ?_) (fun _ a => a) q⟩ (Same.refl _) w
    · rcases List.mem_append.mp z with z | z
      · exact List.mem_append_left _ (R.ops i b z)
      · exact sub b z
    · rcases List.mem_append.mp hb with z | z
      · exact List.mem_append_left _ (R.ops i b z)
      · exact sub b z
  | brw y =>
    have w' : got (kp (.brw y)) fun z => K (.ret (.d z)) ρ := w
    obtain ⟨z, e2, hk⟩ := got_some w'
    have e3 : (if flat y = true then some y else none) = some z := e2
    split at e3
    · rename_i f; cases e3
      exact out.ret s v (.d y) _ _ _ _ R (flat_move D.notup (hid := F.fr0) (Rd.ext r R.ext fun _ b => b) f) (Same.refl _) hk
    · cases e3
  | exc c => exact w.elim

/-! parts that may be own -/
theorem OwnAt.moves' {hid hid' : List Addr} {a : Addr} {x : PyData} (r : OwnAt hid h a x) (k' : ∀ b o, b ∉ a :: hid → h.get? b = some o → b ∉ a :: hid' ∧ h'.get? b = some o) (ka : ∀ o, h.get? a = some o → h'.get? a = some o) : OwnAt hid' h' a x := by
  cases x with
  | list xs => obtain ⟨vs, m, h1, h2⟩ := r; exact ⟨vs, m, ka _ h1, h2.move k'⟩
  | dict kvs => obtain ⟨es, m, h1, h2, h3, h4⟩ := r; exact ⟨es, m, ka _ h1, h2.move k', h3.move k', h4⟩
  | _ => exact r.elim
theorem Sit.hide {cx : Cx} {env : Env} {hid fr : List Addr} {envs : List Env} {a : Addr} (S : Sit G dep cx env hm A h hid fr envs ρ) (x : Ext fr h h') (n : h.get? a = none) (d : ∃ o, h'.get? a = some o ∧ NT o) : Sit G dep cx env hm A h' (a :: hid) fr envs ρ := by
  refine ⟨S.stk.ext x, S.depth, S.units, S.hok.ext x, fun b hb => .tail _ (S.sub b hb), fun b hb => ?_, S.envok, fun y i hy u hu => ?_, S.len, fun y c q => x.dom (S.cok y c q)⟩
  · rcases List.mem_cons.mp hb with rfl | hb
    · exact d
    · exact Dom.ext S.dom x b hb
  · obtain ⟨v, va, r⟩ := S.envr y i hy u hu
    refine ⟨v, va.ext x, ?_⟩
    have := TR.item (new := [a]) (by rcases nmV_cases u with z | z | z; exact .inl z; exact .inr (.inl z); exact .inr (.inr z)) r x S.sub (fun b hb => by rw [List.mem_singleton.mp hb]; exact n) h'
    exact this
theorem own_args (IH : SE G Φ dep n) {cx : Cx} {env : Env} {fr : List Addr} {envs : List Env} {pos : Pos} {X : Nat → Prop} : ∀ {es : List Expr} {es' : Es} {s : Shared} {hid : List Addr} {K : List V → Prop} {Q : List Value → Shared → Prop}, lowL (lowE n cx) es = some es' → Sit G dep cx env hm A s.heap hid fr envs ρ → wpEs Φ hm es' ρ K X →
    (∀ vs s' us, us.length = es.length → Ext fr s.heap s'.heap → Same s s' → (∀ l, partsF us = some l → ∃ as, as.Nodup ∧ (∀ a ∈ as, s.heap.get? a = none) ∧ PartsR s.heap (as ++ hid) s'.heap vs l as) → K us → Q vs s') → Thrown G fr s X E → wpAny (model G.prog G.w) A (spliced (backTo pos (starEach es env))) Q E s
  | [], es', s, hid, K, Q, h, S, w, k, t => by
    cases h
    exact args_nil (k [] s [] rfl (Ext.refl _ _) (Same.refl _) (fun l e => by cases e; exact ⟨[], .nil, (fun a ha => by cases ha), trivial⟩) w)
  | e :: es, es', s, hid, K, Q, h, S, w, k, t => by
    obtain ⟨a, h1, h2⟩ := Option.bind_eq_some_iff.mp h
    obtain ⟨b, h3, rfl⟩ := Option.map_eq_some_iff.mp h2
    refine args_cons (IH cx env hm A s hid fr envs ρ e a _ X _ E h1 S w (fun v s₁ u r x m w' => ?_) t) (star_of_low h1)
    by_cases ho : ∃ y, u = .own y
    · obtain ⟨y, rfl⟩ := ho
      obtain ⟨a, rfl, na, r⟩ := r
      have af : a ∉ fr := fun q => S.Dom.fresh na (S.sub a q)
      have S1 := S.hide x na r.there
      refine own_args IH h3 S1 w' (fun vs s₂ us l x' m' pr w'' => k (.ref a :: vs) s₂ (.own y :: us) (by simp [l]) (x.trans x') (m.trans m') (fun l e1 => ?_) w'') (t.from x m)
      obtain ⟨q1, e2, e3⟩ := Option.bind_eq_some_iff.mp e1
      obtain ⟨l', e4, rfl⟩ := Option.map_eq_some_iff.mp e3
      cases e2
      obtain ⟨as, nd, nw, q⟩ := pr l' e4
      have as1 : a ∉ as := fun z => by
        obtain ⟨o, z1, _⟩ := r.there
        rw [nw a z] at z1; cases z1
      refine ⟨a :: as, List.nodup_cons.mpr ⟨as1, nd⟩, fun c hc => ?_, rfl, na, ?_, ?_⟩
      · rcases List.mem_cons.mp hc with rfl | hc
        · exact na
        · exact x.gone (nw c hc)
      · refine r.moves' (fun b o hb e => ⟨fun z => ?_, (x' b o e).1 fun z => hb (.tail _ (S.sub b z))⟩) fun o e => (x' a o e).1 af
        rcases List.mem_cons.mp z with z | z
        · exact hb (z ▸ .head _)
        · rcases List.mem_cons.mp z with z | z
          · exact hb (z ▸ .head _)
          · rcases List.mem_append.mp z with z | z
            · rw [nw b z] at e; cases e
            · exact hb (.tail _ z)
      · have sub : ∀ b ∈ a :: as ++ hid, b ∈ as ++ a :: hid := fun b hb => by
          rcases List.mem_cons.mp hb with rfl | hb
          · exact List.mem_append_right _ (.head _)
          · rcases List.mem_append.mp hb with hb | hb
            · exact List.mem_append_left _ hb
            · exact List.mem_append_right _ (.tail _ hb)
        exact (PartsR.moves (P := as) (hid' := a :: as ++ hid) (fun b o hb e => ⟨fun z => hb (sub b z), e⟩) (fun r _ _ => r.anti sub) (fun _ a => a) q).base fun c z => x.gone z
    · refine own_args IH h3 (S.ext x) w' (fun vs s₂ us l x' m' pr w'' => k (v :: vs) s₂ (u :: us) (by simp [l]) (x.trans x') (m.trans m') (fun l e1 => ?_) w'') (t.from x m)
      obtain ⟨q1, e2, e3⟩ := Option.bind_eq_some_iff.mp e1
      obtain ⟨l', e4, rfl⟩ := Option.map_eq_some_iff.mp e3
      obtain ⟨as, nd, nw, q⟩ := pr l' e4
      have e5 : ∃ y, kp u = some y ∧ q1 = (false, y) := by
        cases u with
        | own y => exact absurd ⟨y, rfl⟩ ho
        | d y => cases e2; exact ⟨y, rfl, rfl⟩
        | brw y => obtain ⟨z, z1, z2⟩ := Option.map_eq_some_iff.mp (show (kp (.brw y)).map (false, ·) = some q1 from e2); exact ⟨z, z1, z2.symm⟩
        | ot y => cases e2; exact ⟨_, rfl, rfl⟩
        | exc c => cases e2
      obtain ⟨y, e6, rfl⟩ := e5
      refine ⟨as, nd, fun c hc => x.gone (nw c hc), ?_, q.base fun c z => x.gone z⟩
      refine Rd.move (r.keep S.Dom (S.ext x).dom e6) fun b o hb e => ⟨fun z => ?_, (x' b o e).1 fun z => hb (S.sub b z)⟩
      rcases List.mem_append.mp z with z | z
      · rw [nw b z] at e; cases e
      · exact hb z
theorem partsF_length : ∀ {us : List V} {l : List (Bool × PyData)}, partsF us = some l → l.length = us.length
  | [], l, e => by cases e; rfl
  | u :: us, l, e => by
    obtain ⟨q1, e2, e3⟩ := Option.bind_eq_some_iff.mp e
    obtain ⟨l', e4, rfl⟩ := Option.map_eq_some_iff.mp e3
    simp [partsF_length e4]
theorem rett_case (IH : SE G Φ dep n) {es : List Expr} {es' : Es} {c : Nat} {p pos : Pos} (he : lowL (lowE n F.cx) es = some es') (hz : es.length < 1000) (R : StR G F dep hm A pl op ρ s.heap) (w : wpS Φ hm (.rett es') ρ K X) (out : Out G F dep hm A pl op s K X Q E) :
    wpAny (model G.prog G.w) A (exec (.Return (some (.Tuple es c p)) pos) F.env) Q E s := by
  refine wpAny_Return_some (Tuple_ (own_args IH he R.sit w (fun vs s' us l x m pr w' => ?_) (out.thrown R)))
  obtain ⟨ll, e1, hk⟩ := got_some w'
  obtain ⟨as, nd, nw, q⟩ := pr ll e1
  have lv : vs.length = es.length := by rw [q.length, ← l, partsF_length e1]
  refine wpAny_newObj_type ?_ (by show vs.toArray.size ≤ sizeLine; rw [List.size_toArray, sizeLine_eq]; omega)
  have x2 : Ext F.fr s'.heap (s'.heap.push { cls := .type "tuple", data := .seq vs.toArray }) := ext_push _ _ _
  have k2 : ∀ b o, s'.heap.get? b = some o → (s'.heap.push { cls := .type "tuple", data := .seq vs.toArray }).get? b = some o := fun b o e => Heap.get?_push_of_some _ e
  refine out.ret { s' with heap := _ } _ (.ot ll) _ _ _ _ (R.step (x.trans x2)) ?_ ⟨m.1, m.2⟩ hk
  have sub : ∀ b ∈ as ++ (F.pls ++ F.hid0), b ∈ as ++ F.hid pl := fun b hb => by
    rcases List.mem_append.mp hb with z | z
    · exact List.mem_append_left _ z
    · exact List.mem_append_right _ (List.mem_append_right _ z)
  refine ⟨_, vs.toArray, 0, as, rfl, Heap.get?_push_size _ rfl, nd, (PartsR.moves (P := as) (hid' := as ++ (F.pls ++ F.hid0)) (fun b o hb e => ⟨fun z => hb (sub b z), k2 b o e⟩) (fun r _ _ => OwnAt.moves (r.anti sub) (fun b o hb e => ⟨hb, k2 b o e⟩) fun o e => k2 _ o e) (fun _ a => a) q).base fun a z => R.ext.gone z⟩

/-! a value dropped; a choice -/
theorem drop_case (IH : SE G Φ dep n) {f : Str} {args : List Expr} {kws : List Keyword} {e : TC.E} {p p2 pos : Pos} (he : lowE n F.cx (.Call (.Name f p) args kws p2) = some e) (R : StR G F dep hm A pl op ρ s.heap) (w : wpS Φ hm (.drop e) ρ K X) (out : Out G F dep hm A pl op s K X Q E) :
    wpAny (model G.prog G.w) A (exec (.Expr (.Call (.Name f p) args kws p2) pos) F.env) Q E s := by
  refine wpAny_Expr_any (IH _ _ _ _ _ _ _ _ _ _ _ _ _ _ _ he R.sit w (fun v s₁ u r x1 m1 w1 => out.nxt _ _ _ _ (R.step x1) (R.advStep x1) m1 w1) (out.thrown R)) ?_ rfl
  unfold interactive; rw [R.envok.kind]; rfl

/-- statements one after another -/
noncomputable def SSt (G : Gl) (Φ : Call) (dep n : Nat) : Prop :=
  ∀ (F : Fx) (hm : Bool) (A : Around) (pl : List Addr) (op : Nat → List Addr) (ρ : Rho) (s : Shared) (st : Stmt) (t : TC.S) (K : TC.Flow → Rho → Prop) (X : Nat → Rho → Prop) (Q : PySem.Flow → Shared → Prop) (E : Value → Shared → Prop),
    lowS n F.cx st = some t → StR G F dep hm A pl op ρ s.heap → wpS Φ hm t ρ K X → Out G F dep hm A pl op s K X Q E → wpAny (model G.prog G.w) A (exec st F.env) Q E s
theorem seq_ok (IS : SSt G Φ dep n) : ∀ {sts : List Stmt} {ts : Ss} {pl : List Addr} {op : Nat → List Addr} {ρ : Rho} {s : Shared} {Q : PySem.Flow → Shared → Prop}, lowSs (lowS n F.cx) sts = some ts → StR G F dep hm A pl op ρ s.heap → wpSs Φ hm ts ρ K X → Out G F dep hm A pl op s K X Q E →
    wpAny (model G.prog G.w) A (execs sts F.env) Q E s
  | [], ts, pl, op, ρ, s, Q, lo, R, w, out => by cases lo; exact wpAny_execs_nil (out.nxt _ _ _ _ R (Adv.refl _ _ _ _) (Same.refl _) w)
  | st :: sts, ts, pl, op, ρ, s, Q, lo, R, w, out => by
    obtain ⟨a, h1, h2⟩ := Option.bind_eq_some_iff.mp lo
    obtain ⟨b, h3, rfl⟩ := Option.map_eq_some_iff.mp h2
    refine wpAny_execs_cons (IS _ _ _ _ _ _ _ _ _ _ _ _ _ h1 R w ⟨fun s' pl op ρ R' a m w' => ?_, fun s' v u pl op ρ ρ' R' r m w' => ?_, fun s' e c C fl pl op ρ R' q1 q2 q3 m w' => out.exc _ _ _ _ _ _ _ _ R' q1 q2 q3 m w'⟩)
    · exact seq_ok IS h3 R' w' (out.from R a m)
    · exact out.ret _ _ _ _ _ _ _ R' r m w'
theorem ite_case (IT : ST G Φ dep n) (IS : SSt G Φ dep n) {t : Expr} {a b : List Stmt} {c : TC.E} {a' b' : Ss} {pos : Pos} (ht : lowE n F.cx t = some c) (ha : lowSs (lowS n F.cx) a = some a') (hb : lowSs (lowS n F.cx) b = some b') (R : StR G F dep hm A pl op ρ s.heap) (w : wpS Φ hm (.ite c a' b') ρ K X)
    (out : Out G F dep hm A pl op s K X Q E) : wpAny (model G.prog G.w) A (exec (.If t a b pos) F.env) Q E s := by
  refine wpAny_If (IT _ _ _ _ _ _ _ _ _ _ _ _ _ _ _ ht R.sit w (fun u hu => let ⟨c, e, _⟩ := ifB_inv hu; ⟨c, e⟩) (fun c s₁ x1 m1 w1 => ?_) (out.thrown R))
  obtain ⟨c', e, w1⟩ := ifB_inv w1
  cases e
  cases c with
  | true => rw [if_pos rfl]; exact seq_ok IS ha (R.step x1) (w1.1 rfl) (out.from R (R.advStep x1) m1)
  | false => rw [if_neg (by decide)]; exact seq_ok IS hb (R.step x1) (w1.2 rfl) (out.from R (R.advStep x1) m1)
end
end TC

set_option maxRecDepth 100000
namespace TC
open PySem PySem.W PyProof.Rows

section
variable {G : Gl} {F : Fx} {Φ : Call} {dep n : Nat} {hm : Bool} {A : Around} {pl : List Addr} {op : Nat → List Addr} {ρ : Rho} {h h' : Heap} {s s₁ : Shared} {v : Value} {u u' : V} {P : List Addr} {E : Value → Shared → Prop} {M : Model} {x : Str} {i : Nat} {K : TC.Flow → Rho → Prop} {X : Nat → Rho → Prop} {Q : PySem.Flow → Shared → Prop}

theorem ns_uniq {a : Addr} {m m' : Str → Option Value} (n : h.Ns a m) (n' : h.Ns a m') : m = m' := by
  obtain ⟨o1, es1, ep1, a1, a2, _, a3⟩ := n
  obtain ⟨o2, es2, ep2, b1, b2, _, b3⟩ := n'
  rw [a1] at b1; cases b1
  rw [a2] at b2; cases b2
  funext y
  rw [← a3, b3]
theorem varAt.uniq {env : Env} {v v' : Value} (a : varAt env h x v) (b : varAt env h x v') : v = v' := by
  rcases a with ⟨k, m, n, q⟩ | ⟨k, c, hc, o, q1, q2⟩
  · rcases b with ⟨_, m', n', q'⟩ | ⟨k', _⟩
    · rw [ns_uniq n n', q'] at q; exact (Option.some.inj q).symm
    · rw [k] at k'; rcases k' with z | z <;> cases z
  · rcases b with ⟨k', _⟩ | ⟨_, c', hc', o', q1', q2'⟩
    · rw [k'] at k; rcases k with z | z <;> cases z
    · rw [hc] at hc'; cases hc'
      rw [q1] at q1'; cases q1'
      rw [q2] at q2'; injection q2' with z; exact Option.some.inj z

/-- the list of a name's own is changed -/
theorem StR.mut {a : Addr} {ys : List PyData} {ws vs : Array Value} {m m' : Nat} (R : StR G F dep hm A pl op ρ h) (hx : F.cx.tb.lookup x = some i) (va : varAt F.env h x (.ref a)) (hop : op i = [a]) (ho : h.get? a = some (listObj vs m)) (ho' : h'.get? a = some (listObj ws m'))
    (k : ∀ b o, b ≠ a → h.get? b = some o → h'.get? b = some o) (r : RdAll (a :: F.hid pl) h ws.toList ys) : StR G F dep hm A pl op (ρ.set i (some (.own (.list ys)))) h' := by
  have apl : a ∈ pl := R.ops i a (by rw [hop]; exact .head _)
  have ap : a ∉ F.pls := (R.dpl a apl).1
  have ahid : a ∈ F.hid pl := List.mem_append_left _ apl
  have k' : ∀ b o, b ∉ [a] → h.get? b = some o → h'.get? b = some o := fun b o hb e => k b o (fun q => hb (by rw [q]; exact .head _)) e
  have vk : ∀ y w, varAt F.env h y w → varAt F.env h' y w := fun y w va => by
    rcases va with ⟨q, mm, nn, hv⟩ | ⟨q, c, hc, o, q1, q2⟩
    · refine .inl ⟨q, mm, nn.at' fun o e => k _ o (fun z => ap ?_) e, hv⟩
      rw [← z]; exact .head _
    · refine .inr ⟨q, c, hc, o, k c o (fun z => ?_) q1, q2⟩
      rw [z, ho] at q1; cases q1; cases q2
  refine R.chg (Z := [a]) k' (fun b hb => ?_) (fun e q z => ?_) (R.fm.on fun b o hb e => k b o (fun z => ap (z ▸ hb)) e) (fun _ b => b) (fun b hb => ?_) R.ops R.dis (fun j b hb => ?_) (by simp [R.len]) (fun y b e hb => ?_) (fun z => ?_) fun y j hy w hw => ?_
  · rw [List.mem_singleton.mp hb]
    exact ⟨ahid, R.newl a apl⟩
  · obtain ⟨o, vs, e, d⟩ := R.hnd q
    rw [List.mem_singleton.mp z, ho] at e; cases e; cases d
  · by_cases z : b = a
    · rw [z]; exact ⟨_, ho', fun e => by simp at e⟩
    · obtain ⟨_, o, e1, e2⟩ := R.dpl b hb; exact ⟨o, k b o z e1, e2⟩
  · by_cases z : b = a
    · rw [z]; exact ⟨_, ho', fun vs e => by cases e⟩
    · obtain ⟨o, e1, e2⟩ := R.opf j b hb; exact ⟨o, k b o z e1, e2⟩
  · rw [List.mem_singleton.mp hb]; exact ⟨_, ho'⟩
  · exact absurd (List.mem_singleton.mp z ▸ (show F.env.locals ∈ F.pls from .head _)) ap
  · by_cases q : j = i
    · subst q
      obtain rfl := R.inj y x j hy hx
      by_cases lt : j < ρ.length
      · rw [List.getElem?_set_self lt] at hw
        cases hw
        refine ⟨.ref a, vk _ _ va, a, rfl, hop, R.newl a apl, ws, m', ho', r.move fun b o hb e => ⟨hb, k b o (fun z => hb (z ▸ .head _)) e⟩⟩
      · rw [List.set_eq_of_length_le (by omega), List.getElem?_eq_none (by omega)] at hw; cases hw
    · rw [List.getElem?_set_ne (Ne.symm q)] at hw
      obtain ⟨w', va', r'⟩ := R.slots y j hy w hw
      refine ⟨w', vk _ _ va', r'.moves (fun b o hb e => ⟨hb, k b o (fun z => hb (z ▸ ahid)) e⟩) (fun b hb o e => k b o (fun z => R.dis j i q b hb (by rw [hop, z]; exact .head _)) e) (fun b o e nt => k b o (fun z => nt ?_) e) fun b o vs C e d c di => ⟨o, vs, k b o (fun z => ?_) e, c, di, d⟩⟩
      · rw [z, ho] at e; cases e; exact fun q => by simp at q
      · rw [z, ho] at e; cases e; cases d

theorem StR.advMut {a : Addr} {h1 : Heap} (R : StR G F dep hm A pl op ρ h) (x : Ext F.fr h h1) (hop : op i = [a]) (k : ∀ b o, b ≠ a → h1.get? b = some o → h'.get? b = some o) : Adv F pl op h pl op h' :=
  ⟨fun b o q1 q2 q3 e => ⟨k b o (fun z => q3 i (by rw [hop, z]; exact .head _)) ((x b o e).1 q1), q3⟩, fun _ _ q _ => q, fun _ q _ => q⟩
/-- a method of the list of a name's own -/
theorem own_slot (R : StR G F dep hm A pl op ρ h) (hv : F.cx.var x = some i) {xs : List PyData} (hu : ρ[i]? = some (some (.own (.list xs)))) : ∃ a vs m, varAt F.env h x (.ref a) ∧ op i = [a] ∧ h.get? a = some (listObj vs m) ∧ RdAll (a :: F.hid pl) h vs.toList xs := by
  obtain ⟨h1, h2, h3⟩ := var_inv hv
  obtain ⟨v, va, a, rfl, e, n, vs, m, ho, r⟩ := R.slots x i h2 _ hu
  exact ⟨a, vs, m, va, e, ho, r⟩
theorem meth_ok (IH : SE G Φ dep n) {name : Str} {id : String} {arg : Expr} {e : TC.E} {apos pos pos' np : Pos} {a : Addr} {vs : Array Value} {m : Nat} {Q' : V → Prop} (hline : (apos.endLine == pos.line) = true) (hv : F.cx.var x = some i) (he : lowE n F.cx arg = some e) (slot : Slot "list" name id) (hty : typeOf (.builtin id) = pure (.type "method_descriptor")) (R : StR G F dep hm A pl op ρ s.heap)
    (va : varAt F.env s.heap x (.ref a)) (ho : s.heap.get? a = some (listObj vs m)) (w : wpE Φ hm e ρ Q' (X · ρ)) (t : Thrown G F.fr s (X · ρ) E)
    (k : ∀ v s' u, TR G.ca s.heap (F.hid pl) F.fr s'.heap v u → Ext F.fr s.heap s'.heap → Same s s' → Q' u → wpAny (model G.prog G.w) A (call (.builtin id) [.ref a, v]) (fun _ => Q .next) E s') :
    wpAny (model G.prog G.w) A (exec (.Expr (.Call (.Attribute (.Name x np) name apos) [arg] [] pos) pos') F.env) Q E s := by
  obtain ⟨h1, h2, h3⟩ := var_inv hv
  refine wpAny_Expr_any ?_ (by unfold interactive; rw [R.envok.kind]; rfl) rfl
  have hl : s.heap.IsList a vs := ⟨_, ho, rfl, m, rfl⟩
  refine Call_method1 rfl (star_of_low he) hline (load_var R.envok.kind (fun q => R.envok.nocd x (by rw [← R.envok.names]; exact q)) h1 va ⟨"list", id, PySem.F.plainAttrs_list, slot, hty, hl.typeIs, fun b e => ?_, ?_⟩)
  · cases e; exact ⟨_, ho, rfl⟩
  · refine Calls.callWith_builtin rfl (Calls.evalArgs_plain (Calls.spliced_cons (IH _ _ _ _ _ _ _ _ _ _ _ _ _ _ _ he R.sit w (fun v s' u r x m w => ?_) t)))
    exact Calls.spliced_nil (k v s' u r x m w)
theorem slot_list {k : List PyData → Prop} (w : slot ρ i fun u => match u with | .own (.list xs) => k xs | _ => False) : ∃ xs, ρ[i]? = some (some (.own (.list xs))) ∧ k xs := by
  obtain ⟨su, q1, w1⟩ := got_some w
  obtain ⟨u, rfl, w1⟩ := got_some w1
  cases u with
  | own y => cases y with
    | list xs => exact ⟨xs, q1, w1⟩
    | _ => exact w1.elim
  | _ => exact w1.elim
theorem app_case (IH : SE G Φ dep n) {arg : Expr} {e : TC.E} {apos pos pos' np : Pos} (hline : (apos.endLine == pos.line) = true) (hv : F.cx.var x = some i) (he : lowE n F.cx arg = some e) (R : StR G F dep hm A pl op ρ s.heap) (w : wpS Φ hm (.app i e) ρ K X) (out : Out G F dep hm A pl op s K X Q E) :
    wpAny (model G.prog G.w) A (exec (.Expr (.Call (.Attribute (.Name x np) "append" apos) [arg] [] pos) pos') F.env) Q E s := by
  obtain ⟨xs, hu, w⟩ := slot_list w
  obtain ⟨a, vs, m, va, hop, ho, r⟩ := own_slot R hv hu
  refine meth_ok IH hline hv he PySem.slot_list_append PySem.F.type_list_append R va ho w (out.thrown R) fun v s' u rv x1 m1 w1 => ?_
  obtain ⟨y, e1, w2⟩ := got_some w1
  have R1 := R.step x1
  obtain ⟨a', vs', m', va', hop', ho', r'⟩ := own_slot R1 hv hu
  have ea : a' = a := by have := va'.uniq (va.ext x1); cases this; rfl
  subst ea
  have ln := r'.length
  rw [Array.length_toList] at ln
  have rv' := rv.keep R.dom R1.dom e1
  have lt := w2.1
  rw [lim_eq] at lt
  refine append_ok ho' (by rw [sizeLine_eq]; omega) fun h2 n2 e2 k2 => ?_
  have ahid : a' ∈ F.hid pl := List.mem_append_left _ (R.ops i a' (by rw [hop]; exact .head _))
  refine out.nxt { s' with heap := h2 } pl op _ (R1.mut (h' := h2) (var_inv hv).2.1 va' hop' ho' e2 k2 ?_) (R.advMut x1 hop k2) ⟨m1.1, m1.2⟩ w2.2
  rw [Array.toList_push]
  exact r'.append (.cons (rv'.move fun b o hb e => ⟨fun q => (List.mem_cons.mp q).elim (fun q => hb (q ▸ ahid)) hb, e⟩) (.nil _ _))

/-- the first place of an int in a list of ints -/
theorem erase_at (k : Int) : ∀ {vs : List Value} {is : List Int}, IntsAre vs is → k ∈ is → ∃ j, ∃ hj : j < vs.length, isInt k vs[j] = true ∧ (∀ m (hm : m < vs.length), m < j → isInt k vs[m] = false) ∧ IntsAre (vs.eraseIdx j) (is.erase k)
  | _, _, .nil, h => by cases h
  | _, _, .cons n t r, h => by
    rename_i vs is
    by_cases c : n = k
    · subst c
      refine ⟨0, by simp, by simp [isInt], fun m hm lt => by omega, ?_⟩
      simpa using r
    · have hm : k ∈ is := by rcases List.mem_cons.mp h with e | e; exact absurd e.symm c; exact e
      obtain ⟨j, hj, h1, h2, h3⟩ := erase_at k r hm
      refine ⟨j + 1, by simpa using hj, by simpa using h1, fun m hm lt => ?_, ?_⟩
      · cases m with
        | zero => simp [isInt, c]
        | succ m => simpa using h2 m (by simpa using hm) (by omega)
      · rw [List.erase_cons_tail (by simpa using c)]
        simpa using IntsAre.cons n t h3
theorem remove_ok {prog : Program} {w : World} {l : Addr} {vs : Array Value} {n : Nat} {k : Int} {t : Tok} {is : List Int} {Q : Value → Shared → Prop} (ho : s.heap.get? l = some (listObj vs n)) (I : IntsAre vs.toList is) (hk : k ∈ is) (hz : is.length < lim)
    (h : ∀ h' ws n', h'.get? l = some (listObj ws n') → IntsAre ws.toList (is.erase k) → (∀ b o, b ≠ l → s.heap.get? b = some o → h'.get? b = some o) → Q .none { s with heap := h' }) : wpAny (model prog w) A (call (.builtin "list.remove") [.ref l, .int k t]) Q E s := by
  obtain ⟨j, hj, h1, h2, h3⟩ := erase_at k I hk
  have hj' : j < vs.size := by simpa using hj
  have ln := I.length
  rw [lim_eq] at hz
  refine call_meets PySem.F.slot_list_remove ⟨_, ho, rfl⟩ PySem.F.entry_list_remove (PySem.F.args_list_remove_2 _ _) (MeetsSeq.list_remove l vs n (.int k t) (isInt k) (fun y hy => eq_isInt k t I y (by simpa using hy)) j hj' (by simpa using h1) (fun m hm lt => by have q := h2 m (by simpa using hm) lt; rwa [Array.getElem_toList] at q) (by rw [sizeLine_eq]; rw [Array.length_toList] at ln; omega)) ⟨ho, ?_⟩
  obtain ⟨n', hd'⟩ := Obj.data_mapSeq (o := listObj vs n) rfl (fun xs => xs.eraseIdxIfInBounds j)
  have e := Heap.get?_update_self (Obj.mapSeq (fun xs => xs.eraseIdxIfInBounds j)) ho (Obj.isFreed_of_seq hd')
  have eo : Obj.mapSeq (fun xs => xs.eraseIdxIfInBounds j) (listObj vs n) = listObj (vs.eraseIdxIfInBounds j) n' := by
    unfold Obj.mapSeq at hd' ⊢
    simp only at hd' ⊢
    injection hd' with _ q
    rw [← q]
  rw [eo] at e
  refine h _ _ n' e ?_ fun b o hb e => (Heap.get?_update_other _ _ (Ne.symm hb)).trans e
  rw [Array.toList_eraseIdxIfInBounds]
  exact h3
theorem rem_case (IH : SE G Φ dep n) {arg : Expr} {e : TC.E} {apos pos pos' np : Pos} (hline : (apos.endLine == pos.line) = true) (hv : F.cx.var x = some i) (he : lowE n F.cx arg = some e) (R : StR G F dep hm A pl op ρ s.heap) (w : wpS Φ hm (.rem i e) ρ K X) (out : Out G F dep hm A pl op s K X Q E) :
    wpAny (model G.prog G.w) A (exec (.Expr (.Call (.Attribute (.Name x np) "remove" apos) [arg] [] pos) pos') F.env) Q E s := by
  obtain ⟨xs, hu, w⟩ := slot_list w
  obtain ⟨a, vs, m, va, hop, ho, r⟩ := own_slot R hv hu
  refine meth_ok IH hline hv he PySem.F.slot_list_remove PySem.F.type_list_remove R va ho w (out.thrown R) fun v s' u rv x1 m1 w1 => ?_
  have R1 := R.step x1
  obtain ⟨a', vs', m', va', hop', ho', r'⟩ := own_slot R1 hv hu
  have ea : a' = a := by have := va'.uniq (va.ext x1); cases this; rfl
  subst ea
  cases u with
  | d y => cases y with
    | int k =>
      obtain ⟨is, e1, hk, hz, w2⟩ := got_some w1
      obtain ⟨t, rfl⟩ := Rd.int_inv rv
      refine remove_ok ho' (ints_are r' e1) hk hz fun h2 ws n2 e2 I2 k2 => ?_
      exact out.nxt { s' with heap := h2 } pl op _ (R1.mut (h' := h2) (var_inv hv).2.1 va' hop' ho' e2 k2 (ints_back I2)) (R.advMut x1 hop k2) ⟨m1.1, m1.2⟩ w2
    | _ => exact w1.elim
  | _ => exact w1.elim

/-- an item of a list written anew -/
theorem setitem_ok {prog : Program} {w : World} {l : Addr} {vs : Array Value} {n : Nat} {k : Int} {t : Tok} {v : Value} {Q : Unit → Shared → Prop} (ho : s.heap.get? l = some (listObj vs n)) (h0 : 0 ≤ k) (hj : k < vs.size) (hf : k < 2 ^ 63)
    (h : ∀ h' n', h'.get? l = some (listObj (vs.setIfInBounds k.toNat v) n') → (∀ b o, b ≠ l → s.heap.get? b = some o → h'.get? b = some o) → Q () { s with heap := h' }) : wpAny (model prog w) A (setItem (.ref l) (.int k t) v) Q E s := by
  have hl : s.heap.IsList l vs := ⟨_, ho, rfl, n, rfl⟩
  unfold setItem
  try with_reducible refine wpAny_holding ?_
  first | refine wpAny_bind (wpAny_pure ?_) | skip
  refine wpAny_bind (wpAny_sequenceKey hl.typeIs (by decide) ?_)
  refine wpAny_bind (wpAny_callSpecial?_slot (name := Str.ofString "__setitem__") hl.typeIs slot_list_setitem
    (wpAny_call_entry slot_list_setitem hl.typeIs entry_list_setitem ?_ (args_list_setitem _ _ _)))
  show wpAny _ _ (Builtin.List.listSubscript? (.int k t) >>= _) _ _ s
  refine wpAny_bind (wpAny_listSubscript_int (fitsIndex_of h0 hf) ?_)
  clear hf
  obtain ⟨j, rfl⟩ := Int.eq_ofNat_of_zero_le h0
  have hj : j < vs.size := by omega
  have hx' : vs[j]? = some vs[j] := Array.getElem?_eq_getElem hj
  show wpAny _ _ ((seqItemAt l j >>= fun r => pure (r.map (j, ·))) >>= _) _ _ s
  refine wpAny_bind (wpAny_bind (wpAny_seqItemAt ho rfl (wpAny_pure ?_)))
  rw [hx']
  show wpAny _ _ (setSeqItemAt l j v >>= _) _ _ s
  obtain ⟨n', hd'⟩ := Obj.data_mapSeq (o := listObj vs n) rfl (·.setIfInBounds j v)
  have e := Heap.get?_update_self (Obj.mapSeq (·.setIfInBounds j v)) ho (Obj.isFreed_of_seq hd')
  have eo : Obj.mapSeq (·.setIfInBounds j v) (listObj vs n) = listObj (vs.setIfInBounds j v) n' := by
    unfold Obj.mapSeq at hd' ⊢
    simp only at hd' ⊢
    injection hd' with _ q
    rw [← q]
  rw [eo] at e
  have fin := h _ n' e fun b o hb e => (Heap.get?_update_other _ _ (Ne.symm hb)).trans e
  refine wpAny_bind (wpAny_setSeqItemAt ho rfl ?_)
  first
    | exact wpAny_bind (wpAny_pure (wpAny_pure ⟨.none, rfl, wpAny_pure fin⟩))
    | exact wpAny_pure ⟨.none, rfl, wpAny_pure fin⟩
theorem set_case (IH : SE G Φ dep n) {k val : Expr} {k' v' : TC.E} {np sp pos : Pos} (hv : F.cx.var x = some i) (hk : lowE n F.cx k = some k') (he : lowE n F.cx val = some v') (hc : notComp val = true) (R : StR G F dep hm A pl op ρ s.heap) (w : wpS Φ hm (.set i k' v') ρ K X) (out : Out G F dep hm A pl op s K X Q E) :
    wpAny (model G.prog G.w) A (exec (.Assign [.Subscript (.Name x np) k sp] val pos) F.env) Q E s := by
  have hs : swapsWith val (some (.Subscript (.Name x np) k sp)) pos.line F.env = pure false := by
    cases val <;> first | rfl | cases hc | (cases n <;> cases he)
  obtain ⟨h1, h2, h3⟩ := var_inv hv
  obtain ⟨xs, hu, w⟩ := slot_list w
  refine wpAny_Assign_Subscript (IH _ _ _ _ _ _ _ _ _ _ _ _ _ _ _ he R.sit w (fun v s₁ u r x1 m1 w1 => ?_) (out.thrown R)) hs
  have R1 := R.step x1
  obtain ⟨a, vs, m, va, hop, ho, rs⟩ := own_slot R1 hv hu
  refine load_var R.envok.kind (fun q => R.envok.nocd x (by rw [← R.envok.names]; exact q)) h1 va ?_
  refine IH _ _ _ _ _ _ _ _ _ _ _ _ _ _ _ hk R1.sit w1 (fun vk s₂ uk rk x2 m2 w2 => ?_) ((out.from R (R.advStep x1) m1).thrown R1)
  have R2 := R1.step x2
  obtain ⟨a', vs', m', va', hop', ho', r'⟩ := own_slot R2 hv hu
  have ea : a' = a := by have := va'.uniq (va.ext x2); cases this; rfl
  subst ea
  obtain ⟨y, e1, w3⟩ := got_some w2
  cases uk with
  | d z => cases z with
    | int j =>
      obtain ⟨j0, j1, j2, w4⟩ := w3
      obtain ⟨t, rfl⟩ := Rd.int_inv rk
      have ln := r'.length
      rw [Array.length_toList] at ln
      rw [lim_eq] at j2
      have rv := (R.sit.trx r x1 x2).keep R.dom R2.dom e1
      have ahid : a' ∈ F.hid pl := List.mem_append_left _ (R.ops i a' (by rw [hop']; exact .head _))
      refine setitem_ok ho' j0 (by omega) (by omega) fun h3 n3 e3 k3 => ?_
      refine out.nxt { s₂ with heap := h3 } pl op _ (R2.mut (h' := h3) h2 va' hop' ho' e3 k3 ?_) (R.advMut (x1.trans x2) hop' k3) ⟨(m1.trans m2).1, (m1.trans m2).2⟩ w4
      rw [Array.toList_setIfInBounds]
      refine RdAll.of_get (by simp [ln]) fun c w' x' q1 q2 => ?_
      rw [List.getElem?_set] at q1 q2
      by_cases cj : j.toNat = c
      · rw [if_pos cj] at q1 q2
        split at q1
        · split at q2
          · cases q1; cases q2
            exact rv.move fun b o hb e => ⟨fun q => (List.mem_cons.mp q).elim (fun q => hb (q ▸ ahid)) hb, e⟩
          · cases q2
        · cases q1
      · rw [if_neg cj] at q1 q2
        obtain ⟨x'', q3, q4⟩ := r'.get' q1
        rw [q2] at q3; cases q3; exact q4
    | _ => exact w3.elim
  | _ => exact w3.elim
end
end TC

namespace TC
open PySem PySem.W PyProof.Rows

mutual
theorem PR.keeps' {h h' : Heap} (k : ∀ b o, (∀ vs, o.data ≠ .fields vs) → h.get? b = some o → h'.get? b = some o) : ∀ {v : Value} {x : PyData}, PR h v x → PR h' v x
  | _, _, .non => .non
  | _, _, .bool b => .bool b
  | _, _, .int i t => .int i t
  | _, _, .str x t => .str x t
  | _, _, .list e r => .list (k _ _ (fun _ q => by cases q) e) (PRs.keeps' k r)
  | _, _, .tuple e r => .tuple (k _ _ (fun _ q => by cases q) e) (PRs.keeps' k r)
  | _, _, .dict e r q => .dict (k _ _ (fun _ q => by cases q) e) (PRs.keeps' k r) (PRs.keeps' k q)
theorem PRs.keeps' {h h' : Heap} (k : ∀ b o, (∀ vs, o.data ≠ .fields vs) → h.get? b = some o → h'.get? b = some o) : ∀ {v : List Value} {x : List PyData}, PRs h v x → PRs h' v x
  | _, _, .nil => .nil
  | _, _, .cons a b => .cons (PR.keeps' k a) (PRs.keeps' k b)
end
theorem hid_noted {hid fr : List Addr} {h h' : Heap} (x : Nt fr h h') (sub : ∀ b ∈ fr, b ∈ hid) : ∀ b o, (∀ vs, o.data ≠ .fields vs) → (hideAll h hid).get? b = some o → (hideAll h' hid).get? b = some o := fun b o nf e =>
  let ⟨e1, e2⟩ := hid_get e
  hideAll_get _ (((x b o e2).1 nf).1 fun q => e1 (sub b q)) e1
theorem Rd.noted {hid fr : List Addr} {h h' : Heap} {v : Value} {y : PyData} (r : Rd hid h v y) (x : Nt fr h h') (sub : ∀ b ∈ fr, b ∈ hid) : Rd hid h' v y := PR.keeps' (hid_noted x sub) r
theorem RdAll.noted {hid fr : List Addr} {h h' : Heap} {v : List Value} {y : List PyData} (r : RdAll hid h v y) (x : Nt fr h h') (sub : ∀ b ∈ fr, b ∈ hid) : RdAll hid h' v y := PRs.keeps' (hid_noted x sub) r
theorem OwnAt.noted {hid fr : List Addr} {h h' : Heap} {a : Addr} {y : PyData} (r : OwnAt hid h a y) (x : Nt fr h h') (sub : ∀ b ∈ fr, b ∈ hid) (af : a ∉ fr) : OwnAt hid h' a y := by
  have s' : ∀ b ∈ fr, b ∈ a :: hid := fun b hb => .tail _ (sub b hb)
  cases y with
  | list xs => obtain ⟨vs, m, h1, h2⟩ := r; exact ⟨vs, m, ((x _ _ h1).1 fun _ q => by cases q).1 af, h2.noted x s'⟩
  | dict kvs => obtain ⟨es, m, h1, h2, h3, h4⟩ := r; exact ⟨es, m, ((x _ _ h1).1 fun _ q => by cases q).1 af, h2.noted x s', h3.noted x s', h4⟩
  | _ => exact r.elim
theorem PartsR.noted {h₁ : Heap} {hid fr : List Addr} {h h' : Heap} (x : Nt fr h h') (sub : ∀ b ∈ fr, b ∈ hid) : ∀ {vs : List Value} {l : List (Bool × PyData)} {as : List Addr}, (∀ a ∈ as, a ∉ fr) → PartsR h₁ hid h vs l as → PartsR h₁ hid h' vs l as
  | [], [], [], _, _ => trivial
  | _ :: _, (false, _) :: _, as, s, ⟨a, b⟩ => ⟨a.noted x sub, PartsR.noted x sub s b⟩
  | _ :: _, (true, _) :: _, _ :: _, s, ⟨a, b, c, d⟩ => ⟨a, b, c.noted x sub (s _ (.head _)), PartsR.noted x sub (fun q hq => s q (.tail _ hq)) d⟩
  | [], [], _ :: _, _, x => nomatch x
  | [], _ :: _, _, _, x => nomatch x
  | _ :: _, [], _, _, x => nomatch x
  | _ :: _, (true, _) :: _, [], _, x => nomatch x

section
variable {G : Gl} {F : Fx} {Φ : Call} {dep n : Nat} {hm : Bool} {A : Around} {pl : List Addr} {op : Nat → List Addr} {ρ : Rho} {h h' : Heap} {s s₁ : Shared} {v : Value} {u u' : V} {P : List Addr} {E : Value → Shared → Prop} {M : Model} {x : Str} {i : Nat} {K : TC.Flow → Rho → Prop} {X : Nat → Rho → Prop} {Q : PySem.Flow → Shared → Prop}

theorem Nt.ns {fr : List Addr} {a : Addr} {m : Str → Option Value} (x : Nt fr h h') (n : h.Ns a m) : h'.Ns a m := by
  obtain ⟨o, es, ep, ho, hd, r⟩ := n
  obtain ⟨_, sl, hs⟩ := (x a o ho).1 fun vs q => by rw [hd] at q; cases q
  exact ⟨_, es, ep, hs, hd, r⟩
theorem Nt.cell {fr : List Addr} {c : Addr} {v : Option Value} (x : Nt fr h h') (n : h.IsCell c v) : h'.IsCell c v := by
  obtain ⟨o, ho, hd⟩ := n
  obtain ⟨_, sl, hs⟩ := (x c o ho).1 fun vs q => by rw [hd] at q; cases q
  exact ⟨_, hs, hd⟩
theorem Nt.there {fr : List Addr} {b : Addr} {o : Obj} (x : Nt fr h h') (e : h.get? b = some o) : ∃ o', h'.get? b = some o' ∧ (NT o → NT o') := by
  by_cases nf : ∀ vs, o.data ≠ .fields vs
  · obtain ⟨_, sl, q⟩ := (x b o e).1 nf; exact ⟨_, q, fun z => z⟩
  · have nf' : ∃ vs, o.data = .fields vs := by
      cases hd : o.data with
      | fields vs => exact ⟨vs, rfl⟩
      | _ => exact absurd (fun vs q => by rw [hd] at q; cases q) nf
    obtain ⟨vs, d⟩ := nf'
    obtain ⟨o', vs', q1, q2, q3, q4, q5⟩ := (x b o e).2 vs d
    exact ⟨o', q1, fun _ _ a b q => by rw [q4] at q; cases q⟩
theorem StR.frnew (R : StR G F dep hm A pl op ρ h) : ∀ b ∈ F.fr, b ∉ F.fr0 → F.h₀.get? b = none := fun b hb n => by
  rcases List.mem_cons.mp hb with rfl | hb
  · exact R.newp _ (.head _)
  · exact absurd hb n
theorem StR.extF (R : StR G F dep hm A pl op ρ h) : Ext F.fr F.h₀ h := R.ext.mono fun b hb => .tail _ hb
theorem StR.noted (R : StR G F dep hm A pl op ρ h) (x0 : Ext F.fr F.h₀ h') (x : Nt F.fr h h') : StR G F dep hm A pl op ρ h' := by
  have x0' : Ext F.fr0 F.h₀ h' := fun b o e => by
    obtain ⟨y1, sl, y2⟩ := x0 b o e
    refine ⟨fun hb => y1 fun q => ?_, sl, y2⟩
    rw [R.frnew b q hb] at e; cases e
  have pf := R.plfr
  refine ⟨x0', ?_, R.uniq, ⟨R.stk.frames, R.stk.fr, R.stk.funs.of_keeps fun b o q nf => let ⟨_, sl, y⟩ := (x b o q).1 nf; ⟨_, y, rfl⟩, fun b o e => ?_⟩, R.frame, R.depth, R.units, ?_, R.base0, R.sub0, R.dom0, R.newp, R.newl, fun b hb => ?_, R.ops, R.dis, fun i a ha => ?_, R.envok, R.inj, R.bnd, R.len, fun y c q => ?_, fun y j hy w hw => ?_⟩
  · obtain ⟨m, n⟩ := R.fm.ns
    exact ⟨R.fm.kf, ⟨m, x.ns n⟩, fun y c e => let ⟨w, z⟩ := R.fm.cell y c e; ⟨w, x.cell z⟩, R.fm.look, R.fm.inj⟩
  · refine (x0 b o (R.base0 b o e)).1 fun q => ?_
    have : b ∈ (F.env :: F.envs0).filterMap (·.frame) := R.stk.fr ▸ q
    rw [(R.stk.funs.mem this).1] at e; cases e
  · rcases R.hok with z | ⟨z, e, e1, o, vs, q1, q2, q3⟩
    · exact .inl z
    · obtain ⟨o', vs', p1, p2, p3, p4, p5⟩ := (x e o q1).2 vs q2
      exact .inr ⟨z, e, e1, o', vs', p1, p4, p5.trans q3⟩
  · obtain ⟨q, o, e1, e2⟩ := R.dpl b hb
    obtain ⟨o', e3, e4⟩ := x.there e1
    exact ⟨q, o', e3, e4 e2⟩
  · obtain ⟨o, e1, e2⟩ := R.opf i a ha
    obtain ⟨_, sl, q⟩ := (x a o e1).1 e2
    exact ⟨_, q, e2⟩
  · obtain ⟨o, e⟩ := R.cok y c q
    obtain ⟨o', e', _⟩ := x.there e
    exact ⟨o', e'⟩
  · obtain ⟨w', va, r⟩ := R.slots y j hy w hw
    refine ⟨w', ?_, ?_⟩
    · rcases va with ⟨k, m, n, q⟩ | ⟨k, c, n, q⟩
      · exact .inl ⟨k, m, x.ns n, q⟩
      · exact .inr ⟨k, c, n, x.cell q⟩
    · cases w with
      | d y => exact Rd.noted r x R.frsub
      | own y => obtain ⟨a, rfl, e, n, r⟩ := r; exact ⟨a, rfl, e, n, r.noted x R.frsub (pf a (R.ops j a (by rw [e]; exact .head _))).1⟩
      | ot l =>
        obtain ⟨t, vs, n, rfl, ht, nd, q⟩ := r
        refine ⟨t, vs, n, rfl, ((x t _ ht).1 fun _ q => by cases q).1 fun z => R.dom.notup t (R.frsub t z) _ ht rfl _ _ rfl, nd, PartsR.noted x R.frsub (fun a ha => (pf a (R.ops j a ha)).1) q⟩
      | brw y => exact r
      | exc c =>
        obtain ⟨a, o, vs, C, rfl, h1, h2, h3, h4, h5⟩ := r
        obtain ⟨o', vs', p1, p2, p3, p4, p5⟩ := (x a o h2).2 vs h5
        exact ⟨a, o', vs', C, rfl, h1, p1, p2.trans h3, p3.trans h4, p4⟩

/-- an exception goes out of the body of a loop -/
theorem Out.loopExc (out : Out G F dep hm A pl op s K X Q E) {s' : Shared} {e : Addr} {c : Nat} {C : Addr} {fl : Value} {pl' : List Addr} {op' : Nat → List Addr} {ρ' : Rho} (R : StR G F dep hm A pl' op' ρ' s'.heap) (hC : G.ca[c]? = some C) (hl : fl = .none ∨ fl = rawInt F.env.locals) (Fl : Fly F.h₀ e C fl s'.heap) (m : Same s s') (hx : X c ρ') :
    notedBy (model G.prog G.w) A F.env (fun e s' => cameBackBy (model G.prog G.w) A F.env E e s') (.ref e) s' := by
  unfold notedBy
  refine note_any R.stk R.base0 R.frame R.extF hl Fl fun h1 x1 F1 n1 => ?_
  unfold cameBackBy
  refine back_ok (s := { s' with heap := h1 }) R.frame x1 F1 fun h2 x2 F2 n2 => ?_
  exact out.exc { s' with heap := h2 } e c C _ pl' op' ρ' (R.noted x2 (n1.trans n2)) hC (.inr rfl) F2 ⟨m.1, m.2⟩ hx

/-- a list of the frame's own that a loop runs over -/
theorem StR.freeze {y : PyData} (R : StR G F dep hm A pl op ρ h) (hu : ρ[i]? = some (some (.own y))) : StR G F dep hm A (pl.filter fun b => !(op i).contains b) (fun j => if j = i then [] else op j) (ρ.set i (some (.d y))) h ∧ Adv F pl op h (pl.filter fun b => !(op i).contains b) (fun j => if j = i then [] else op j) h := by
  have fm : ∀ b, b ∈ (pl.filter fun b => !(op i).contains b) ↔ b ∈ pl ∧ b ∉ op i := fun b => by simp [List.mem_filter]
  have hs : ∀ b ∈ F.hid (pl.filter fun b => !(op i).contains b), b ∈ F.hid pl := fun b hb => by
    rcases List.mem_append.mp hb with z | z
    · exact List.mem_append_left _ ((fm b).mp z).1
    · exact List.mem_append_right _ z
  refine ⟨R.chg (Z := []) (fun b o _ e => e) (fun b hb => by cases hb) (fun e _ z => by cases z) R.fm (fun b hb => ((fm b).mp hb).1) (fun b hb => (R.dpl b ((fm b).mp hb).1).2) (fun j a ha => ?_) (fun j l ne a ha => ?_) (fun j a ha => ?_) (by simp [R.len]) (fun _ b _ hb => by cases hb) (fun q => by cases q) fun x j hx w hw => ?_, ?_⟩
  · split at ha
    · cases ha
    · rename_i q; exact (fm a).mpr ⟨R.ops j a ha, R.dis j i q a ha⟩
  · split at ha
    · cases ha
    · split
      · exact fun z => by cases z
      · exact R.dis j l ne a ha
  · split at ha
    · cases ha
    · exact R.opf j a ha
  · by_cases q : j = i
    · subst q
      have lt : j < ρ.length := (List.getElem?_eq_some_iff.mp hu).1
      rw [List.getElem?_set_self lt] at hw
      cases hw
      obtain ⟨v, va, a, rfl, e, n, r⟩ := R.slots x j hx _ hu
      refine ⟨_, va, r.rd (fun z => ?_) hs⟩
      rcases List.mem_append.mp z with z | z
      · exact ((fm a).mp z).2 (by rw [e]; exact .head _)
      · rcases List.mem_append.mp z with z | z
        · exact (R.dpl a (R.ops j a (by rw [e]; exact .head _))).1 z
        · exact R.dom0.fresh n z
    · rw [List.getElem?_set_ne (Ne.symm q)] at hw
      obtain ⟨v, va, r⟩ := R.slots x j hx w hw
      refine ⟨v, va, ?_⟩
      rw [if_neg q]
      exact r.moves (fun b o hb e => ⟨fun z => hb (hs b z), e⟩) (fun _ _ _ e => e) (fun _ _ e _ => e) fun b o vs C e d c di => ⟨o, vs, e, c, di, d⟩
  · refine ⟨fun b o _ _ q3 e => ⟨e, fun j z => ?_⟩, fun b o q e z => q (hs b z), fun b q z => (fm b).mpr ⟨q, z i⟩⟩
    split at z
    · cases z
    · exact q3 j z
end
end TC

namespace TC
open PySem PySem.W PyProof.Rows

noncomputable def VarsOk (cx : Cx) : List Str → List Nat → Prop
  | [], [] => True
  | x :: xs, i :: is => cx.var x = some i ∧ VarsOk cx xs is
  | _, _ => False
noncomputable def setMany (ρ : Rho) : List Nat → List PyData → Rho
  | i :: is, y :: ys => setMany (ρ.set i (some (.d y))) is ys
  | _, _ => ρ
theorem VarsOk.length {cx : Cx} : ∀ {xs : List Str} {is : List Nat}, VarsOk cx xs is → xs.length = is.length
  | [], [], _ => rfl
  | _ :: _, _ :: _, ⟨_, b⟩ => by simp [VarsOk.length b]
theorem tgt_vars {cx : Cx} : ∀ {es : List Expr} {is : List Nat}, es.foldr (fun e r => match e, r with | .Name x _, some l => (cx.var x).map (· :: l) | _, _ => none) (some []) = some is → ∃ (xs : List Str) (ps : List Pos), xs.length = ps.length ∧ es = (xs.zip ps).map (fun p => .Name p.1 p.2) ∧ VarsOk cx xs is
  | [], is, h => by cases h; exact ⟨[], [], rfl, rfl, trivial⟩
  | e :: es, is, h => by
    rw [List.foldr_cons] at h
    split at h
    · rename_i x p l q
      obtain ⟨i, h1, rfl⟩ := Option.map_eq_some_iff.mp h
      obtain ⟨xs, ps, l1, h2, h3⟩ := tgt_vars q
      exact ⟨x :: xs, p :: ps, by simp [l1], by simp [h2], h1, h3⟩
    · cases h
theorem unp_vars {cx : Cx} : ∀ {es : List Expr} {is : List (Bool × Nat)}, lowUnp cx es = some is → ∃ (xs : List Str) (ps : List Pos), xs.length = ps.length ∧ es = (xs.zip ps).map (fun p => .Name p.1 p.2) ∧ VarsOk cx xs (is.map (·.2))
  | [], is, h => by cases h; exact ⟨[], [], rfl, rfl, trivial⟩
  | e :: es, is, h => by
    cases e with
    | Name x p =>
      obtain ⟨i, h1, h⟩ := Option.bind_eq_some_iff.mp h
      obtain ⟨l, h2, rfl⟩ := Option.map_eq_some_iff.mp h
      obtain ⟨xs, ps, l1, h3, h4⟩ := unp_vars h2
      exact ⟨x :: xs, p :: ps, by simp [l1], by simp [h3], h1, h4⟩
    | _ => cases h

section
variable {G : Gl} {F : Fx} {Φ : Call} {dep n : Nat} {hm : Bool} {A : Around} {pl : List Addr} {op : Nat → List Addr} {ρ : Rho} {h h' : Heap} {s s₁ : Shared} {v : Value} {u u' : V} {P : List Addr} {E : Value → Shared → Prop} {M : Model} {x : Str} {i : Nat} {K : TC.Flow → Rho → Prop} {X : Nat → Rho → Prop} {Q : PySem.Flow → Shared → Prop}

theorem StR.storeD {y : PyData} (R : StR G F dep hm A pl op ρ s.heap) (hv : F.cx.var x = some i) (r : Rd (F.hid pl) s.heap v y) {Q : Unit → Shared → Prop}
    (h : ∀ h' tk, StR G F dep hm A pl (fun j => if j = i then [] else op j) (ρ.set i (some (.d y))) h' → Adv F pl op s.heap pl (fun j => if j = i then [] else op j) h' → (∀ b o, b ∉ F.pls → s.heap.get? b = some o → h'.get? b = some o) → Q () { s with heap := h', toks := tk }) : wpAny M A (storeName F.env x v) Q E s :=
  R.store (u := .d y) (P := []) hv r (fun a ha => by cases ha) (fun a ha => by cases ha) (fun _ _ a ha => by cases ha) fun h' tk R' k => h h' tk R' (R.advPut (P := []) (i := i) (Adv.refl _ _ _ _) k fun a ha => by cases ha) k
theorem stores_ok {Q : Unit → Shared → Prop} : ∀ {xs : List Str} {ps : List Pos} {is : List Nat} {vs : List Value} {ys : List PyData} {op : Nat → List Addr} {ρ : Rho} {s : Shared}, VarsOk F.cx xs is → xs.length = ps.length → ys.length = is.length → StR G F dep hm A pl op ρ s.heap → RdAll (F.hid pl) s.heap vs ys →
    (∀ h' tk op', StR G F dep hm A pl op' (setMany ρ is ys) h' → Adv F pl op s.heap pl op' h' → Q () { s with heap := h', toks := tk }) → wpAny M A (assignInOrder ((xs.zip ps).map fun p => assign (.Name p.1 p.2) F.env) vs) Q E s
  | [], ps, [], vs, ys, op, ρ, s, _, _, l, R, r, h => by
    cases ys with
    | nil => cases r; exact wpAny_pure (h s.heap s.toks op R (Adv.refl _ _ _ _))
    | cons => cases l
  | x :: xs, p :: ps, i :: is, vs, ys, op, ρ, s, hv, l1, l, R, r, h => by
    cases ys with
    | nil => cases l
    | cons y ys =>
      cases vs with
      | nil => have := r.length; cases this
      | cons v vs =>
        obtain ⟨y', ys', e, a, b⟩ := r.split
        cases e
        refine wpAny_bind (wpAny_holding (wpAny_bind (wpAny_standAt (wpAny_bindName (R.storeD hv.1 a fun h1 tk R1 a1 k1 => ?_)))))
        refine stores_ok (s := { s with heap := h1, toks := tk }) hv.2 (by simpa using l1) (by simpa using l) R1 (b.move fun b o hb e => ⟨hb, k1 b o (fun q => hb (R.plsZ b q).1) e⟩) fun h2 tk2 op2 R2 a2 => ?_
        exact h h2 tk2 op2 R2 (R.adv a1 a2)
  | _ :: _, [], _, _, _, _, _, _, _, l, _, _, _, _ => by cases l
  | _ :: _, _, [], _, _, _, _, _, x, _, _, _, _, _ => nomatch x
  | [], _, _ :: _, _, _, _, _, _, x, _, _, _, _, _ => nomatch x

theorem keepF {hid fr : List Addr} {h₁ : Heap} (D1 : Dom hid h₁) (D : Dom hid h) (r : TR G.ca h₁ hid fr h v u) (e : keepV false u = some u') : ∃ y, u' = .d y ∧ Rd hid h v y := by
  cases u with
  | d y => cases e; exact ⟨y, rfl, r⟩
  | own y => cases e; exact ⟨y, rfl, r.keep D1 D rfl⟩
  | ot l => cases e; exact ⟨_, rfl, r.keep D1 D rfl⟩
  | brw y => obtain ⟨z, e1, rfl⟩ := Option.map_eq_some_iff.mp (show (kp (.brw y)).map V.d = some u' from e); exact ⟨z, rfl, r.keep D1 D e1⟩
  | exc c => cases e
theorem keepAllF {hid fr : List Addr} {h₁ : Heap} (D1 : Dom hid h₁) (D : Dom hid h) : ∀ {vs : List Value} {us : List V} {is : List (Bool × Nat)} {ρ ρ' : Rho}, TRs G.ca h₁ hid fr h vs us → is.all (fun q => !q.1) = true → setAll ρ is us = some ρ' → ∃ ys, RdAll hid h vs ys ∧ ρ' = setMany ρ (is.map (·.2)) ys ∧ ys.length = is.length
  | [], [], [], ρ, ρ', _, _, e => by cases e; exact ⟨[], .nil _ _, rfl, rfl⟩
  | v :: vs, u :: us, (o, i) :: is, ρ, ρ', ⟨a, b⟩, hf, e => by
    simp only [List.all_cons, Bool.and_eq_true, Bool.not_eq_true'] at hf
    obtain ⟨rfl, hf⟩ := hf
    obtain ⟨w, e1, e2⟩ := Option.bind_eq_some_iff.mp e
    obtain ⟨y, rfl, r⟩ := keepF D1 D a e1
    obtain ⟨ys, q1, q2, q3⟩ := keepAllF D1 D b (by simpa using hf) e2
    exact ⟨y :: ys, .cons r q1, q2, by simp [q3]⟩
  | [], [], _ :: _, _, _, _, _, e => by cases e
  | _ :: _, _ :: _, [], _, _, _, _, e => by cases e
theorem parts_any {hid fr : List Addr} {h₁ : Heap} {n : Nat} {us : List V} (D : Dom hid s.heap) (r : TR G.ca h₁ hid fr s.heap v u) (e : partsV u n = some us) : ∃ t items m, v = .ref t ∧ s.heap.get? t = some (tupObj items m) ∧ TRs G.ca h₁ hid fr s.heap items.toList us ∧ us.length = n := by
  by_cases no : ∃ l, u = .ot l
  · obtain ⟨l, rfl⟩ := no
    replace e : (if l.length = n then some (l.map fun p => if p.1 then V.own p.2 else V.d p.2) else none) = some us := e
    split at e
    · rename_i q
      cases e
      obtain ⟨t, vs, m, as, rfl, ht, nd, pr⟩ := r
      refine ⟨t, vs, m, rfl, ht, ?_, by simpa using q⟩
      have sub : ∀ b ∈ hid, b ∈ as ++ hid := fun b hb => List.mem_append_right _ hb
      clear q nd ht
      generalize as ++ hid = hid' at pr sub
      generalize vs.toList = ws at pr
      induction ws generalizing l as with
      | nil => cases l <;> cases as <;> first | trivial | exact pr.elim
      | cons w ws ih =>
        match l, as, pr with
        | (false, _) :: _, as, ⟨a, b⟩ => exact ⟨a.anti sub, ih _ _ b⟩
        | (true, _) :: _, c :: _, ⟨a, b, o, d⟩ => exact ⟨⟨c, a, b, o.anti sub⟩, ih _ _ d⟩
    · cases e
  · exact parts_ok D r (fun l q => no ⟨l, q⟩) e

theorem unp_case (IH : SE G Φ dep n) {ts : List Expr} {c : Nat} {tp pos p : Pos} {f : Expr} {args : List Expr} {kws : List Keyword} {is : List (Bool × Nat)} {e : TC.E} (hu : lowUnp F.cx ts = some is) (hf : is.all (fun q => !q.1) = true) (he : lowE n F.cx (.Call f args kws p) = some e) (R : StR G F dep hm A pl op ρ s.heap)
    (w : wpS Φ hm (.unp is e) ρ K X) (out : Out G F dep hm A pl op s K X Q E) : wpAny (model G.prog G.w) A (exec (.Assign [.Tuple ts c tp] (.Call f args kws p) pos) F.env) Q E s := by
  have hs : swapsWithSole [.Tuple ts c tp] (.Call f args kws p) pos.line F.env = pure false := rfl
  have hw : swappedStores [.Tuple ts c tp] (.Call f args kws p) F.env = pure none := rfl
  obtain ⟨xs, ps, l1, ets, hv⟩ := unp_vars hu
  have ha : (assignEach [.Tuple ts c tp] F.env).map (·.2) = [assign (.Tuple ts c tp) F.env] := rfl
  refine wpAny_Assign_stores (IH _ _ _ _ _ _ _ _ _ _ _ _ _ _ _ he R.sit w (fun v s₁ u r x1 m1 w1 => ?_) (out.thrown R)) hs hw
  rw [ha]
  show wpAny _ A (assign (.Tuple ts c tp) F.env v) _ _ s₁
  clear hs hw ha
  obtain ⟨us, e1, w1⟩ := got_some w1
  obtain ⟨ρ', e2, hk⟩ := got_some w1
  have R1 := R.step x1
  obtain ⟨t, items, m, rfl, ho, q1, q2⟩ := parts_any R1.dom r e1
  obtain ⟨ys, q3, rfl, q4⟩ := keepAllF R.dom R1.dom q1 hf e2
  have q5 := q1.length
  rw [Array.length_toList] at q5
  have lv := hv.length
  simp only [List.length_map] at lv
  rw [arm_assign_Tuple, ets, assignEach_names]
  have l3 : ((xs.zip ps).map fun p => (false, assign (.Name p.1 p.2) F.env)).length = items.size := by
    rw [List.length_map, List.length_zip]; omega
  refine wpAny_bind (wpAny_standAt (unpack_ok R1.hok ho l3 (no_star _ _) fun h2 k2 => ?_))
  rw [List.map_map]
  have x2 : Ext F.fr s₁.heap h2 := Ext.of_keeps k2
  refine stores_ok (s := { s₁ with heap := h2 }) hv l1 (by rw [q4, List.length_map]) (R1.step x2) (q3.move fun b o hb e => ⟨hb, k2 b o e⟩) fun h3 tk op3 R3 a3 => ?_
  exact out.nxt { s₁ with heap := h3, toks := tk } _ _ _ R3 (R.adv (R.advStep (x1.trans x2)) a3) ⟨m1.1, m1.2⟩ hk
end
end TC

namespace TC
open PySem PySem.W PyProof.Rows

section
variable {G : Gl} {F : Fx} {Φ : Call} {dep n : Nat} {hm : Bool} {A : Around} {pl : List Addr} {op : Nat → List Addr} {ρ : Rho} {h h' : Heap} {s s₁ : Shared} {v : Value} {u u' : V} {P : List Addr} {E : Value → Shared → Prop} {M : Model} {x : Str} {i : Nat} {K : TC.Flow → Rho → Prop} {X : Nat → Rho → Prop} {Q : PySem.Flow → Shared → Prop}

/-- a loop's target takes an item -/
theorem item_bind {pl' : List Addr} {op' : Nat → List Addr} {ρ1 ρ' : Rho} {s5 : Shared} {target : Expr} {tgt : Tgt} {k : Rho → Prop} {Q : Unit → Shared → Prop} (R1 : StR G F dep hm A pl op ρ1 s₁.heap) (a : Adv F pl op s₁.heap pl' op' s5.heap) (R5 : StR G F dep hm A pl' op' ρ' s5.heap)
    (r : TR G.ca s₁.heap (F.hid pl) F.fr s₁.heap v u) (lt : lowTgt F.cx target = some tgt) (w : bindF tgt u ρ' k) (h : ∀ h6 tk op6 ρ6, StR G F dep hm A pl' op6 ρ6 h6 → Adv F pl' op' s5.heap pl' op6 h6 → k ρ6 → Q () { s5 with heap := h6, toks := tk }) :
    wpAny (model G.prog G.w) A (assign target F.env v) Q E s5 := by
  cases target with
  | Name x p =>
    obtain ⟨i, h1, rfl⟩ := Option.map_eq_some_iff.mp lt
    obtain ⟨w1, e1, hk⟩ := got_some w
    obtain ⟨y, rfl, ry⟩ := keepF R1.dom R1.dom r e1
    exact wpAny_bind (wpAny_standAt (wpAny_bindName (R5.storeD h1 (a.rd R1 ry) fun h6 tk R6 a6 _ => h h6 tk _ _ R6 a6 hk)))
  | Tuple es c p =>
    obtain ⟨is, h1, rfl⟩ := Option.map_eq_some_iff.mp lt
    obtain ⟨xs, ps, l1, ets, hv⟩ := tgt_vars h1
    obtain ⟨us, e1, w⟩ := got_some w
    obtain ⟨ρ6, e2, hk⟩ := got_some w
    obtain ⟨t, items, m, rfl, ho, q1, q2⟩ := parts_any R1.dom r e1
    obtain ⟨ys, q3, rfl, q4⟩ := keepAllF R1.dom R1.dom q1 (by simp) e2
    have em : (is.map fun i => (false, i)).map (·.2) = is := by rw [List.map_map]; exact List.map_id' is
    rw [em] at hk
    have q5 := q1.length
    rw [Array.length_toList] at q5
    have lv := hv.length
    have nt : ∀ b ∈ F.hid pl, b ≠ t := fun b hb z => R1.dom.notup b hb _ (z ▸ ho) rfl _ _ rfl
    have ho5 : s5.heap.get? t = some (tupObj items m) := (a.keep t _ (fun q => nt t (R1.frsub t q) rfl) (fun q => nt t (List.mem_append_right _ (List.mem_append_left _ q)) rfl) (fun j q => nt t (List.mem_append_left _ (R1.ops j t q)) rfl) ho).1
    rw [arm_assign_Tuple, ets, assignEach_names]
    have l3 : ((xs.zip ps).map fun p => (false, assign (.Name p.1 p.2) F.env)).length = items.size := by
      rw [List.length_map, List.length_zip]; omega
    refine wpAny_bind (wpAny_standAt (unpack_ok R5.hok ho5 l3 (no_star _ _) fun h2 k2 => ?_))
    rw [List.map_map]
    have x2 : Ext F.fr s5.heap h2 := Ext.of_keeps k2
    have q6 : RdAll (F.hid pl') h2 items.toList ys := by
      refine RdAll.move (hid := F.hid pl) (h := s₁.heap) q3 fun b o hb e => ?_
      refine ⟨a.out b o hb e, k2 b o (a.keep b o (fun z => hb (R1.frsub b z)) (fun z => hb (List.mem_append_right _ (List.mem_append_left _ z))) (fun i z => hb (List.mem_append_left _ (R1.ops i b z))) e).1⟩
    refine stores_ok (s := { s5 with heap := h2 }) hv l1 (by rw [q4, List.length_map]) (R5.step x2) q6 fun h3 tk op3 R3 a3 => ?_
    exact h h3 tk op3 _ R3 (R5.adv (R5.advStep x2) a3) hk
  | _ => cases lt

/-- what the loop's iterator stands on -/
noncomputable def IterL (G : Gl) (F : Fx) (A : Around) (pl : List Addr) (op : Nat → List Addr) (I : Addr) (us : List V) (h₁ h' : Heap) : Prop :=
  ∃ fp P St, Walks G.prog G.w A I fp [I] us.length P St ∧ St 0 h' ∧ (∀ b ∈ fp, (∃ o, h'.get? b = some o) ∧ b ∉ F.fr ∧ b ∉ F.pls ∧ ∀ i, b ∉ op i) ∧ (∀ i v, P i v → ∀ u, us[i]? = some u → TR G.ca h₁ (F.hid pl) F.fr h₁ v u) ∧
    ∀ i h, St i h → ∃ o n, h.get? I = some o ∧ o.cls = .type n ∧ quietIt n = true ∧ NT o
theorem IterL.of {I : Addr} {us : List V} {h₁ h' : Heap} {sv : Value} (R : StR G F dep hm A pl op ρ h₁) (k : ∀ b o, h₁.get? b = some o → h'.get? b = some o) (nI : h₁.get? I = none) (W : IterX G A (F.hid pl) F.fr I us h₁ h' sv)
    (hsv : ∀ b, sv = .ref b → (∃ o, h₁.get? b = some o) ∧ b ∉ F.pls ∧ ∀ i, b ∉ op i) : IterL G F A pl op I us h₁ h' := by
  obtain ⟨fp, P, St, Wk, st0, hfp, hP, hIt, hku, hal⟩ := W
  refine ⟨fp, P, St, Wk, st0, fun b hb => ?_, hP, hIt⟩
  have bf := (hfp b hb).2
  rcases hal b hb with rfl | z | z
  · obtain ⟨o, nm, e, _⟩ := hIt 0 h' st0
    refine ⟨⟨o, e⟩, bf, fun q => ?_, fun i q => ?_⟩
    · obtain ⟨o', e', _⟩ := R.fm.dom R.uniq b q; rw [nI] at e'; cases e'
    · obtain ⟨o', e', _⟩ := R.opf i b q; rw [nI] at e'; cases e'
  · have he : A.handled = some (.ref b) := by
      unfold hAddr at z
      split at z
      · rename_i e q; rw [List.mem_singleton.mp z]; exact q
      · cases z
    obtain ⟨o, vs, e1, e2⟩ := R.hnd he
    exact ⟨⟨o, k b o e1⟩, bf, fun q => (R.plsZ b q).2.2 o vs e1 e2, fun i q => by obtain ⟨o', e', nf⟩ := R.opf i b q; rw [e1] at e'; cases e'; exact nf vs e2⟩
  · obtain ⟨⟨o, e⟩, q1, q2⟩ := hsv b z
    exact ⟨⟨o, k b o e⟩, bf, q1, q2⟩

theorem set_L {f : Expr → Option TC.E} {cx : Cx} {env : Env} {iter : Expr} {src : Src} (h : lowSrcL f cx iter = some src) (x : Value) : foldedSetIterable iter env x = pure x := by
  cases iter <;> first | rfl | cases h
theorem src_L (O : G.Ok) (IH : SE G Φ dep n) {iter : Expr} {src : Src} {KL : List V → Prop} {XL : Nat → Prop} {Q : Value → Shared → Prop} (lo : lowSrcL (lowE n F.cx) F.cx iter = some src) (R : StR G F dep hm A pl op ρ s.heap) (hno : ∀ i y, src = .dat (.nm i) → ρ[i]? ≠ some (some (.own y))) (w : wpSrcL Φ hm src ρ KL XL)
    (k : ∀ I us s₁ h', Ext F.fr s.heap s₁.heap → Same s s₁ → (∀ b o, s₁.heap.get? b = some o → h'.get? b = some o) → s₁.heap.get? I = none → IterL G F A pl op I us s₁.heap h' → KL us → Q (.ref I) { s₁ with heap := h' }) (t : Thrown G F.fr s XL E) :
    wpAny (model G.prog G.w) A (eval iter F.env) (fun x s₁ => wpAny (model G.prog G.w) A (pyIter x) Q E s₁) E s := by
  have named : ∀ {x p j}, iter = .Name x p → F.cx.var x = some j → (slot ρ j fun u => got (itemsV u) fun xs => xs.length < lim ∧ KL xs) → (∀ y, ρ[j]? ≠ some (some (.own y))) → wpAny (model G.prog G.w) A (eval iter F.env) (fun x s₁ => wpAny (model G.prog G.w) A (pyIter x) Q E s₁) E s := fun {x p j} hi hv w hno => by
    subst hi
    obtain ⟨h1, h2, h3⟩ := var_inv hv
    obtain ⟨su, e1, wa⟩ := got_some w
    obtain ⟨u, rfl, wb⟩ := got_some wa
    have wc : got (itemsV u) (fun xs => xs.length < lim ∧ KL xs) := wb
    obtain ⟨us, e2, wl⟩ := got_some wc
    clear wa wb wc
    obtain ⟨v, va, r⟩ := R.slots x j h2 u e1
    refine load_var R.envok.kind (fun q => R.envok.nocd x (by rw [← R.envok.names]; exact q)) h1 va ?_
    cases u with
    | d y =>
      refine itemsV_ok (h₁ := s.heap) (u := .d y) R.sit.csit R.dom r e2 fun I h' q1 q2 q3 => k I us s h' (Ext.refl _ _) (Same.refl _) q1 q2 (IterL.of R q1 q2 q3 fun b z => ?_) wl.2
      obtain ⟨xs, e3, _⟩ := Option.map_eq_some_iff.mp e2
      have r' : Rd (F.hid pl) s.heap v y := r
      rw [z] at r'
      have key : b ∉ F.hid pl ∧ ∃ o, s.heap.get? b = some o := by
        cases y with
        | list ys => obtain ⟨a, vs, m, e, na, ho, _⟩ := r'.list_inv; cases e; exact ⟨na, _, ho⟩
        | tuple ys => obtain ⟨a, vs, m, e, na, ho, _⟩ := r'.tuple_inv; cases e; exact ⟨na, _, ho⟩
        | _ => cases e3
      exact ⟨key.2, fun q => key.1 (List.mem_append_right _ (List.mem_append_left _ q)), fun i q => key.1 (List.mem_append_left _ (R.ops i b q))⟩
    | own y => exact absurd e1 (hno y)
    | brw y =>
      have rf : Rd F.fr s.heap v y := Rd.move r fun b o hb e => ⟨fun q => by
        rcases List.mem_cons.mp q with rfl | q
        · rw [R.newp _ (.head _)] at e; cases e
        · exact hb q, (R.ext b o e).1 hb⟩
      refine itemsV_ok (h₁ := s.heap) (u := .brw y) R.sit.csit R.dom rf e2 fun I h' q1 q2 q3 => k I us s h' (Ext.refl _ _) (Same.refl _) q1 q2 (IterL.of R q1 q2 q3 fun b z => ?_) wl.2
      obtain ⟨xs, e3, _⟩ := Option.map_eq_some_iff.mp e2
      have r' : Rd F.fr0 F.h₀ v y := r
      rw [z] at r' rf
      have key : ∃ o, F.h₀.get? b = some o := by
        cases y with
        | list ys => obtain ⟨a, vs, m, e, na, ho, _⟩ := r'.list_inv; cases e; exact ⟨_, ho⟩
        | tuple ys => obtain ⟨a, vs, m, e, na, ho, _⟩ := r'.tuple_inv; cases e; exact ⟨_, ho⟩
        | _ => cases e3
      obtain ⟨o, ho⟩ := key
      obtain ⟨_, sl, ho'⟩ := R.ext b o ho
      exact ⟨⟨_, ho'⟩, (fun q => by rw [R.newp b q] at ho; cases ho), (fun i q => by rw [R.newl b (R.ops i b q)] at ho; cases ho)⟩
    | ot l => cases e2
    | exc c => cases e2
  have other : lowSrcWith (lowE n F.cx) F.cx iter = some src → (∀ j, src ≠ .dat (.nm j)) → wpAny (model G.prog G.w) A (eval iter F.env) (fun x s₁ => wpAny (model G.prog G.w) A (pyIter x) Q E s₁) E s := fun lo nn => by
    have rest : (∀ e, src ≠ .dat e) → wpSrc Φ hm src ρ KL XL → wpAny (model G.prog G.w) A (eval iter F.env) (fun x s₁ => wpAny (model G.prog G.w) A (pyIter x) Q E s₁) E s := fun nd w =>
      src_ok O IH lo R.sit w (fun I us s₁ h' x1 m1 q1 q2 q3 _ w1 => by
        obtain ⟨sv, q3, ⟨e, z⟩ | rfl⟩ := q3
        · exact absurd z (nd e)
        · exact k I us s₁ h' x1 m1 q1 q2 (IterL.of (R.step x1) q1 q2 q3 fun b z => by cases z) w1) t
    cases src with
    | dat e =>
      have w' : wpE Φ hm e ρ (fun v => got (itemsL v) fun xs => xs.length < lim ∧ KL xs) XL := by
        cases e <;> first | exact w | exact absurd rfl (nn _)
      have le : lowE n F.cx iter = some e := by
        unfold lowSrcWith at lo
        split at lo
        · split at lo
          · split at lo
            · obtain ⟨_, _, z⟩ := Option.map_eq_some_iff.mp lo; cases z
            · cases lo
          · obtain ⟨_, q, z⟩ := Option.map_eq_some_iff.mp lo; cases z; exact q
        · split at lo
          · split at lo
            · obtain ⟨_, _, z⟩ := Option.bind_eq_some_iff.mp lo; obtain ⟨_, _, z⟩ := Option.map_eq_some_iff.mp z; cases z
            · cases lo
          · obtain ⟨_, q, z⟩ := Option.map_eq_some_iff.mp lo; cases z; exact q
        all_goals first | (obtain ⟨_, q, z⟩ := Option.map_eq_some_iff.mp lo; cases z; exact q) | cases lo
      refine IH _ _ _ _ _ _ _ _ _ _ _ _ _ _ _ le R.sit w' (fun v s₁ u r x1 m1 w1 => ?_) t
      obtain ⟨us, e2, w1⟩ := got_some w1
      have R1 := R.step x1
      have e2' : itemsV u = some us ∧ ∀ y, u ≠ .brw y := by
        cases u with
        | brw y => cases e2
        | _ => exact ⟨e2, fun y q => by cases q⟩
      refine itemsV_ok R1.sit.csit R.dom r e2'.1 fun I h' q1 q2 q3 => k I us s₁ h' x1 m1 q1 q2 (IterL.of R1 q1 q2 q3 fun b z => ?_) w1.2
      subst z
      cases u with
      | d y =>
        obtain ⟨xs, e3, _⟩ := Option.map_eq_some_iff.mp e2'.1
        have key : b ∉ F.hid pl ∧ ∃ o, s₁.heap.get? b = some o := by
          have r' : Rd (F.hid pl) s₁.heap (.ref b) y := r
          cases y with
          | list ys => obtain ⟨a, vs, m, e, na, ho, _⟩ := r'.list_inv; cases e; exact ⟨na, _, ho⟩
          | tuple ys => obtain ⟨a, vs, m, e, na, ho, _⟩ := r'.tuple_inv; cases e; exact ⟨na, _, ho⟩
          | _ => cases e3
        exact ⟨key.2, fun q => key.1 (List.mem_append_right _ (List.mem_append_left _ q)), fun i q => key.1 (List.mem_append_left _ (R.ops i b q))⟩
      | own y =>
        obtain ⟨a, e, na, ro⟩ := r
        cases e
        obtain ⟨o, ho, _⟩ := ro.there
        exact ⟨⟨o, ho⟩, (fun q => by obtain ⟨o', e', _⟩ := R.fm.dom R.uniq b q; rw [na] at e'; cases e'), (fun i q => by obtain ⟨o', e', _⟩ := R.opf i b q; rw [na] at e'; cases e')⟩
      | brw y => exact absurd rfl (e2'.2 y)
      | ot l => cases e2'.1
      | exc c => cases e2'.1
    | _ => exact rest (fun e q => by cases q) w
  unfold lowSrcL at lo
  split at lo
  · rename_i x p
    obtain ⟨j, h1, rfl⟩ := Option.map_eq_some_iff.mp lo
    exact named rfl h1 w fun y => hno j y rfl
  · split at lo
    · cases lo
    · rename_i nn
      exact other lo fun j z => nn j (by rw [lo, z])
end
end TC

namespace TC
open PySem PySem.W PyProof.Rows

section
variable {G : Gl} {F : Fx} {Φ : Call} {dep n : Nat} {hm : Bool} {A : Around} {pl : List Addr} {op : Nat → List Addr} {ρ : Rho} {h h' : Heap} {s s₁ : Shared} {v : Value} {u u' : V} {P : List Addr} {E : Value → Shared → Prop} {M : Model} {x : Str} {i : Nat} {K : TC.Flow → Rho → Prop} {X : Nat → Rho → Prop} {Q : PySem.Flow → Shared → Prop}

/-- the iterator moved on -/
theorem StR.moved {I : Addr} (R : StR G F dep hm A pl op ρ h) (hI : I ∈ pl) (hop : ∀ i, I ∉ op i) (hH : ∀ e, A.handled = some (.ref e) → e ≠ I) (hcell : ∀ y c, F.env.cells.lookup y = some c → c ≠ I) (k : ∀ b o, b ∉ [I] → h.get? b = some o → h'.get? b = some o) (d : ∃ o, h.get? I = some o ∧ ∀ C, o.cls ≠ .ref C) (d' : ∃ o, h'.get? I = some o ∧ NT o) : StR G F dep hm A pl op ρ h' := by
  have Ip : I ∉ F.pls := (R.plfr I hI).2
  have Ih : I ∈ F.hid pl := List.mem_append_left _ hI
  have ne : ∀ {b}, b ≠ I → b ∉ [I] := fun z q => z (List.mem_singleton.mp q)
  refine R.chg (Z := [I]) k (fun b hb => by rw [List.mem_singleton.mp hb]; exact ⟨Ih, R.newl I hI⟩) (fun e q z => hH e q (List.mem_singleton.mp z)) (R.fm.on fun b o hb e => k b o (ne fun z => Ip (z ▸ hb)) e) (fun _ b => b) (fun b hb => ?_) R.ops R.dis (fun j a ha => ?_) R.len (fun y b e hb => by rw [List.mem_singleton.mp hb]; obtain ⟨o, z, _⟩ := d'; exact ⟨o, z⟩) (fun q => absurd (List.mem_singleton.mp q ▸ (show F.env.locals ∈ F.pls from .head _)) Ip) fun y j hy w hw => ?_
  · by_cases z : b = I
    · rw [z]; exact d'
    · obtain ⟨_, o, e1, e2⟩ := R.dpl b hb; exact ⟨o, k b o (ne z) e1, e2⟩
  · obtain ⟨o, e1, e2⟩ := R.opf j a ha
    exact ⟨o, k a o (ne fun z => hop j (z ▸ ha)) e1, e2⟩
  · obtain ⟨w', va, r⟩ := R.slots y j hy w hw
    refine ⟨w', ?_, r.moves (fun b o hb e => ⟨hb, k b o (ne fun z => hb (z ▸ Ih)) e⟩) (fun a ha o e => k a o (ne fun z => hop j (z ▸ ha)) e) (fun b o e nt => k b o (ne fun z => nt ?_) e) fun b o vs C e dd c di => ⟨o, vs, k b o (ne fun z => ?_) e, c, di, dd⟩⟩
    · rcases va with ⟨q, mm, nn, hv⟩ | ⟨q, c, hc, o, q1, q2⟩
      · exact .inl ⟨q, mm, nn.at' fun o e => k _ o (ne fun z => Ip (z ▸ .head _)) e, hv⟩
      · exact .inr ⟨q, c, hc, o, k c o (ne (hcell y c hc)) q1, q2⟩
    · subst z; exact R.dom.notup b Ih o e
    · subst z
      obtain ⟨o', e', z⟩ := d
      rw [e] at e'; cases e'; exact z C c
/-- the iterator is done with -/
theorem StR.gone {I : Addr} (R : StR G F dep hm A pl op ρ h) (hI : I ∈ pl) (hop : ∀ i, I ∉ op i) (hH : ∀ e, A.handled = some (.ref e) → e ≠ I) (hcell : ∀ y c, F.env.cells.lookup y = some c → c ≠ I) (k : ∀ b o, b ∉ [I] → h.get? b = some o → h'.get? b = some o) (d : ∃ o, h.get? I = some o ∧ ∀ C, o.cls ≠ .ref C) : StR G F dep hm A (pl.filter (fun b => !(b == I))) op ρ h' := by
  have Ip : I ∉ F.pls := (R.plfr I hI).2
  have Ih : I ∈ F.hid pl := List.mem_append_left _ hI
  have ne : ∀ {b}, b ≠ I → b ∉ [I] := fun z q => z (List.mem_singleton.mp q)
  have fm : ∀ b, b ∈ (pl.filter (fun b => !(b == I))) ↔ b ∈ pl ∧ b ≠ I := fun b => by simp [List.mem_filter]
  have hs : ∀ b ∈ F.hid (pl.filter (fun b => !(b == I))), b ∈ F.hid pl := fun b hb => by
    rcases List.mem_append.mp hb with z | z
    · exact List.mem_append_left _ ((fm b).mp z).1
    · exact List.mem_append_right _ z
  refine R.chg (Z := [I]) k (fun b hb => by rw [List.mem_singleton.mp hb]; exact ⟨Ih, R.newl I hI⟩) (fun e q z => hH e q (List.mem_singleton.mp z)) (R.fm.on fun b o hb e => k b o (ne fun z => Ip (z ▸ hb)) e) (fun b hb => ((fm b).mp hb).1) (fun b hb => ?_) (fun j a ha => (fm a).mpr ⟨R.ops j a ha, fun z => hop j (z ▸ ha)⟩) R.dis (fun j a ha => ?_) R.len (fun y b e hb => absurd (List.mem_singleton.mp hb) (hcell y b e)) (fun q => absurd (List.mem_singleton.mp q ▸ (show F.env.locals ∈ F.pls from .head _)) Ip) fun y j hy w hw => ?_
  · obtain ⟨q1, q2⟩ := (fm b).mp hb
    obtain ⟨_, o, e1, e2⟩ := R.dpl b q1; exact ⟨o, k b o (ne q2) e1, e2⟩
  · obtain ⟨o, e1, e2⟩ := R.opf j a ha
    exact ⟨o, k a o (ne fun z => hop j (z ▸ ha)) e1, e2⟩
  · obtain ⟨w', va, r⟩ := R.slots y j hy w hw
    refine ⟨w', ?_, r.moves (fun b o hb e => ⟨fun q => hb (hs b q), k b o (ne fun z => hb (z ▸ Ih)) e⟩) (fun a ha o e => k a o (ne fun z => hop j (z ▸ ha)) e) (fun b o e nt => k b o (ne fun z => nt ?_) e) fun b o vs C e dd c di => ⟨o, vs, k b o (ne fun z => ?_) e, c, di, dd⟩⟩
    · rcases va with ⟨q, mm, nn, hv⟩ | ⟨q, c, hc, o, q1, q2⟩
      · exact .inl ⟨q, mm, nn.at' fun o e => k _ o (ne fun z => Ip (z ▸ .head _)) e, hv⟩
      · exact .inr ⟨q, c, hc, o, k c o (ne (hcell y c hc)) q1, q2⟩
    · subst z; exact R.dom.notup b Ih o e
    · subst z
      obtain ⟨o', e', z⟩ := d
      rw [e] at e'; cases e'; exact z C c
theorem frz_ok (R : StR G F dep hm A pl op ρ h) (src : Src) : ∃ pl' op', StR G F dep hm A pl' op' (frz src ρ) h ∧ Adv F pl op h pl' op' h ∧ ∀ i y, src = .dat (.nm i) → (frz src ρ)[i]? ≠ some (some (.own y)) := by
  by_cases q : ∃ i y, src = .dat (.nm i) ∧ ρ[i]? = some (some (.own y))
  · obtain ⟨i, y, rfl, hu⟩ := q
    obtain ⟨R', a⟩ := R.freeze hu
    have e : frz (.dat (.nm i)) ρ = ρ.set i (some (.d y)) := by unfold frz; simp only [hu]
    rw [e]
    refine ⟨_, _, R', a, fun j z ej => ?_⟩
    cases ej
    rw [List.getElem?_set_self (List.getElem?_eq_some_iff.mp hu).1]
    intro q; cases q
  · have e : frz src ρ = ρ := by
      unfold frz
      split
      · rename_i i
        split
        · rename_i y hu; exact absurd ⟨i, y, rfl, hu⟩ q
        · rfl
      · rfl
    rw [e]
    exact ⟨pl, op, R, Adv.refl _ _ _ _, fun i y ej hu => q ⟨i, y, ej, hu⟩⟩
theorem loop_case (O : G.Ok) (IH : SE G Φ dep n) (IS : SSt G Φ dep n) {t iter : Expr} {body : List Stmt} {tgt : Tgt} {src : Src} {b : Ss} {pos : Pos} (ht : lowTgt F.cx t = some tgt) (lo : lowSrcL (lowE n F.cx) F.cx iter = some src) (hb : lowSs (lowS n F.cx) body = some b) (R : StR G F dep hm A pl op ρ s.heap)
    (w : wpS Φ hm (.loop tgt src b) ρ K X) (out : Out G F dep hm A pl op s K X Q E) : wpAny (model G.prog G.w) A (exec (.For t iter body [] pos) F.env) Q E s := by
  obtain ⟨pl0, op0, R0, a0, hno⟩ := frz_ok R src
  have out0 := out.from (s₁ := s) R a0 (Same.refl _)
  refine wpAny_For (src_L O IH lo R0 hno w (fun I us s₁ h' x1 m1 k1 nI W w1 => ?_) (out0.thrown R0)) (set_L lo)
  obtain ⟨fp, P, St, Wk, st0, hfp, hP, hIt⟩ := W
  have R1 := R0.step x1
  obtain ⟨oI, nm, eI, cI, qI, ntI⟩ := hIt 0 h' st0
  have RI : StR G F dep hm A ([I] ++ pl0) op0 (frz src ρ) h' := R1.grow (N := [I]) (Ext.of_keeps k1) fun b hb => by rw [List.mem_singleton.mp hb]; exact ⟨nI, oI, eI, ntI⟩
  have aI : Adv F pl0 op0 s₁.heap ([I] ++ pl0) op0 h' := R1.advGrow (N := [I]) (Ext.of_keeps k1) fun b hb => by rw [List.mem_singleton.mp hb]; exact nI
  have out1 := out0.from (s₁ := s₁) R0 (R0.advStep x1) m1
  have Ifp : I ∈ fp := Wk.sub I (.head _)
  have hH : ∀ e, A.handled = some (.ref e) → e ≠ I := fun e q z => by obtain ⟨o, vs, e1, _⟩ := R1.hnd q; rw [z, nI] at e1; cases e1
  have hcell : ∀ y c, F.env.cells.lookup y = some c → c ≠ I := fun y c q z => by obtain ⟨o, e1⟩ := R1.cok y c q; rw [z, nI] at e1; cases e1
  let Inv : Nat → Shared → Prop := fun j s' => ∃ i pl' op' ρ', i + j = us.length ∧ St i s'.heap ∧ StR G F dep hm A pl' op' ρ' s'.heap ∧ Adv F pl0 op0 s₁.heap pl' op' s'.heap ∧ Same s₁ s' ∧ I ∈ pl' ∧ (∀ b ∈ fp, (∃ o, s'.heap.get? b = some o) ∧ ∀ i, b ∉ op' i) ∧ forW (fun x ρ' k => bindF tgt x ρ' fun ρ'' => wpSs Φ hm b ρ'' k X) K (us.drop i) ρ'
  refine codeAny_forLoop_any Inv (fun j s' inv => ?_) us.length ⟨0, _, _, _, by omega, st0, RI, aI, ⟨rfl, rfl⟩, .head _, fun b hb => ⟨(hfp b hb).1, (hfp b hb).2.2.2⟩, by simpa using w1⟩
  obtain ⟨i, pl', op', ρ', e1, st, R', a', m', hI', hf', w'⟩ := inv
  have nextR : ∀ (h5 : Heap), (∀ b o, b ∉ [I] → s'.heap.get? b = some o → h5.get? b = some o) → (∃ o, h5.get? I = some o ∧ NT o) → StR G F dep hm A pl' op' ρ' h5 ∧ Adv F pl0 op0 s₁.heap pl' op' h5 := fun h5 k5 d5 => by
    obtain ⟨oo, nn, z1, z2, _⟩ := hIt i s'.heap st
    refine ⟨R'.moved hI' (fun i q => (hf' I Ifp).2 i q) hH hcell k5 ⟨oo, z1, fun C z => by rw [z2] at z; cases z⟩ d5, fun b o q1 q2 q3 e => ?_, a'.out, a'.junk⟩
    obtain ⟨y1, y2⟩ := a'.keep b o q1 q2 q3 e
    exact ⟨k5 b o (fun z => by rw [List.mem_singleton.mp z, nI] at e; cases e) y1, y2⟩
  by_cases lt : i < us.length
  · refine Wk.item i s' _ _ lt st fun v h5 tk p st5 k5 => ?_
    obtain ⟨oJ, nJ, q1, q2, q3, q4⟩ := hIt (i + 1) h5 st5
    obtain ⟨R5, a5⟩ := nextR h5 k5 ⟨oJ, q1, q4⟩
    refine letOwned_ok (s := { s' with heap := h5, toks := tk }) q1 q2 q3 ?_
    rw [List.drop_eq_getElem_cons lt] at w'
    have w2 : bindF tgt us[i] ρ' (fun ρ'' => wpSs Φ hm b ρ'' (fun fl ρ3 => match fl with | .nxt => forW (fun x ρ' k => bindF tgt x ρ' fun ρ'' => wpSs Φ hm b ρ'' k X) K (us.drop (i + 1)) ρ3 | .ret v => K (.ret v) ρ3) X) := w'
    refine item_bind (s₁ := s₁) (s5 := { s' with heap := h5, toks := tk }) R1 a5 R5 (hP i v p _ (List.getElem?_eq_getElem lt)) ht w2 fun h6 tk6 op6 ρ6 R6 a6 w6 => ?_
    have hf5 : ∀ b ∈ fp, (∃ o, h5.get? b = some o) ∧ ∀ i, b ∉ op' i := fun b hb => by
      refine ⟨?_, (hf' b hb).2⟩
      by_cases z : b = I
      · rw [z]; exact ⟨oJ, q1⟩
      · obtain ⟨o, e⟩ := (hf' b hb).1; exact ⟨o, k5 b o (fun q => z (List.mem_singleton.mp q)) e⟩
    have hf6 : ∀ b ∈ fp, (∀ o, h5.get? b = some o → h6.get? b = some o) ∧ (∃ o, h6.get? b = some o) ∧ ∀ i, b ∉ op6 i := fun b hb => by
      obtain ⟨o, e⟩ := (hf5 b hb).1
      obtain ⟨y1, y2⟩ := a6.keep b o (hfp b hb).2.1 (hfp b hb).2.2.1 (hf5 b hb).2 e
      refine ⟨fun o' e' => ?_, ⟨o, y1⟩, y2⟩
      rw [e] at e'; cases e'; exact y1
    refine seq_ok IS (s := { s' with heap := h6, toks := tk6 }) hb R6 w6 ⟨fun s7 pl7 op7 ρ7 R7 a7 m7 w7 => ?_, fun s7 v7 u7 pl7 op7 ρ7 ρ7' R7 r7 m7 w7 => ?_, fun s7 e c C fl pl7 op7 ρ7 R7 z1 z2 z3 m7 w7 => ?_⟩
    · have hf7 : ∀ b ∈ fp, (∀ o, h5.get? b = some o → s7.heap.get? b = some o) ∧ (∃ o, s7.heap.get? b = some o) ∧ ∀ i, b ∉ op7 i := fun b hb => by
        obtain ⟨y0, ⟨o, e⟩, y3⟩ := hf6 b hb
        obtain ⟨y1, y2⟩ := a7.keep b o (hfp b hb).2.1 (hfp b hb).2.2.1 y3 e
        refine ⟨fun o' e' => ?_, ⟨o, y1⟩, y2⟩
        have := y0 o' e'; rw [e] at this; cases this; exact y1
      refine ⟨j - 1, by omega, i + 1, pl7, op7, ρ7, by omega, Wk.frame (i + 1) h5 _ st5 fun b hb o e => (hf7 b hb).1 o e, R7, ?_, ⟨m7.1.trans m'.1, m7.2.trans m'.2⟩, a7.junk I hI' (hf6 I Ifp).2.2, fun b hb => (hf7 b hb).2, w7⟩
      exact R1.adv a5 (R5.adv a6 a7)
    · exact out1.ret s7 v7 u7 pl7 op7 ρ7 ρ7' R7 r7 ⟨m7.1.trans m'.1, m7.2.trans m'.2⟩ w7
    · exact out1.loopExc R7 z1 z2 z3 ⟨m7.1.trans m'.1, m7.2.trans m'.2⟩ w7
  · have ei : i = us.length := by omega
    refine Wk.done s' _ _ (ei ▸ st) fun h5 tk k5 => ?_
    have w2 : K .nxt ρ' := by rw [ei, List.drop_length] at w'; exact w'
    obtain ⟨oo, nn, z1, z2, _⟩ := hIt i s'.heap st
    refine wpAny_execs_nil (out1.nxt { s' with heap := h5, toks := tk } _ _ ρ' (R'.gone hI' (fun i q => (hf' I Ifp).2 i q) hH hcell k5 ⟨oo, z1, fun C z => by rw [z2] at z; cases z⟩) ⟨fun b o q1 q2 q3 e => ?_, fun b o q e z => ?_, fun b q z => ?_⟩ ⟨m'.1, m'.2⟩ w2)
    · obtain ⟨y1, y2⟩ := a'.keep b o q1 q2 q3 e
      exact ⟨k5 b o (fun z => by rw [List.mem_singleton.mp z, nI] at e; cases e) y1, y2⟩
    · refine a'.out b o q e ?_
      rcases List.mem_append.mp z with z | z
      · exact List.mem_append_left _ (List.mem_filter.mp z).1
      · exact List.mem_append_right _ z
    · refine List.mem_filter.mpr ⟨a'.junk b q z, ?_⟩
      have : b ≠ I := fun y => by obtain ⟨_, o, e, _⟩ := R1.dpl b q; rw [y, nI] at e; cases e
      simpa using this
end
end TC

namespace TC
open PySem PySem.W PyProof.Rows

section
variable {G : Gl} {F : Fx} {Φ : Call} {dep n : Nat} {hm hm' : Bool} {A A' : Around} {pl : List Addr} {op : Nat → List Addr} {ρ : Rho} {h h' : Heap} {s s₁ : Shared} {v : Value} {u u' : V} {P : List Addr} {E : Value → Shared → Prop} {M : Model} {x : Str} {i : Nat} {K : TC.Flow → Rho → Prop} {X : Nat → Rho → Prop} {Q : PySem.Flow → Shared → Prop}

theorem cls_obj (O : G.Ok) {k : Nat} {C : Addr} (hC : G.ca[k]? = some C) (b : G.B.StaysIn h) : ∃ bm N nm q bs hdct sn sub ab col dd k0 k1 k2 k3 k5 mN, h.get? C = some (excClassObj nm q C N bs bm hdct sn sub ab col dd k0 k1 k2 k3 k5 "ValueError.__new__") ∧ h.Ns N mN ∧ mN "__init__" = none ∧ OwnTail h bmV bm :=
  let ⟨_, o⟩ := O.cown k C hC
  (o.keeps b).obj

theorem rais_case (O : G.Ok) {c msg : Str} {k : Nat} {p1 p2 p3 pos : Pos} {kd : Nat} (hg : F.cx.glob c = true) (hc : F.cx.cls.lookup c = some k) (R : StR G F dep hm A pl op ρ s.heap) (w : wpS Φ hm (.rais k) ρ K X) (out : Out G F dep hm A pl op s K X Q E) :
    wpAny (model G.prog G.w) A (exec (.Raise (some (.Call (.Name c p1) [.Constant (.str msg) kd p2] [] p3)) none pos) F.env) Q E s := by
  obtain ⟨hmf, w⟩ := w
  have hh : A.handled = none := by
    rcases R.hok with z | z
    · exact z.2
    · rw [hmf] at z; cases z.1
  obtain ⟨C, hC, hns⟩ := O.cnm c k (by rw [← R.envok.cls]; exact hc)
  obtain ⟨bm, N, nm, q, bs, hdct, sn, sub, ab, col, dd, k0, k1, k2, k3, k5, mN, hCo, hN, hni, TL⟩ := cls_obj O hC R.stk.base
  refine wpAny_Raise_call_subT PySem.F.excBase_ValueError (C := C) (nm := nm) (q := q) (N := N) (bs := bs) (bm := bm) (hdct := hdct) (sn := sn) (sub := sub) (ab := ab) (col := col) (dd := dd) (k0 := k0) (k1 := k1) (k2 := k2) (k3 := k3) (k5 := k5) (mN := mN) (TL.hasType PySem.F.excBase_ValueError.hasBase) hh rfl hni (name_own O R.sit hg hns ⟨rfl, ?_⟩)
  refine Calls.evalArgs_plain (args_cons (Calls.Constant_str (args_nil ⟨rfl, ?_, ?_, ?_, ?_, fun h' e m => ?_⟩)) ?_)
  · rfl
  · show 1 ≤ sizeLine; rw [sizeLine_eq]; decide
  · exact hCo
  · exact hN
  · exact TL
  · obtain ⟨fl, xt⟩ := made_fly (fr := F.fr) m
    exact out.exc { s with heap := h', toks := _ } e k C .none pl op ρ (R.step xt) hC (.inl rfl) (fl.back R.extF) ⟨rfl, rfl⟩ w

/-- asked whether a clause takes an exception -/
theorem match_ok (O : G.Ok) {c c' : Nat} {C C' e : Addr} {oe : Obj} {fr : List Addr} {envs : List Env} (hC : G.ca[c]? = some C) (hC' : G.ca[c']? = some C') (S : Stk G A s.heap fr envs) (he : s.heap.get? e = some oe) (hcls : oe.cls = .ref C) (hs : (c' == 0 || c == c') = true)
    {Q : Bool → Shared → Prop} (h : Q true s) : wpAny (model G.prog G.w) A' (excMatches (.ref e) (.ref C')) Q E s := by
  obtain ⟨bm, N, nm, q, bs, hdct, sn, sub, ab, col, dd, k0, k1, k2, k3, k5, mN, hCo, hN, hni, TL⟩ := cls_obj O hC' S.base
  have hbase : bm.contains (.type "BaseException") = true := TL.hasType PySem.F.excBase_ValueError.hasBase
  have hcB : (Value.ref C' :: bm).contains (.type "BaseException") = true := by rw [List.contains_cons, hbase, Bool.or_true]
  have f := tc_notTuple
  have kx := O.csub c C c' C' hC hC'
  rw [hs] at kx
  have X : G.K.In s.heap := S.inK O
  have L : ∀ {Q : Bool → Shared → Prop}, Q true s → wpAny (model G.prog G.w) A' (isSubtype (.ref C) (.ref C')) Q E s := fun {Q} hq => (looks_mroIn X kx).at hq
  obtain ⟨hp, g, d, tk, os⟩ := s
  unfold excMatches
  repeat (first | (with_reducible refine wpAny_loadPart_at he ?_; rw [hcls]) | with_reducible refine wpAny_loadPart_at hCo ?_ | (with_reducible refine wpAny_isSubtype_exc hCo ?_; rw [hcB]) | with_reducible refine L ?_ | wp_step)
  exact h
end
end TC

namespace TC
open PySem PySem.W PyProof.Rows

section
variable {G : Gl} {F : Fx} {Φ : Call} {dep n : Nat} {hm hm' : Bool} {A A' : Around} {pl : List Addr} {op : Nat → List Addr} {ρ : Rho} {h h' : Heap} {s s₁ : Shared} {v : Value} {u u' : V} {P : List Addr} {E : Value → Shared → Prop} {M : Model} {x : Str} {i : Nat} {K : TC.Flow → Rho → Prop} {X : Nat → Rho → Prop} {Q : PySem.Flow → Shared → Prop}

theorem StR.remode (R : StR G F dep hm A pl op ρ h) (f : A'.frames = A.frames) (d : A'.depth = A.depth) (u : A'.units = A.units) (hk : HOk hm' A' h) : StR G F dep hm' A' pl op ρ h :=
  ⟨R.ext, R.fm, R.uniq, ⟨f.trans R.stk.frames, R.stk.fr, R.stk.funs, R.stk.base⟩, R.frame, by rw [d]; exact R.depth, by rw [u]; exact R.units, hk, R.base0, R.sub0, R.dom0, R.newp, R.newl, R.dpl, R.ops, R.dis, R.opf, R.envok, R.inj, R.bnd, R.len, R.cok, R.slots⟩

theorem StR.unname {m' : Str → Option Value} (R : StR G F dep hm A pl op ρ h) (n : h'.Ns F.env.locals m') (sb : Heap.SameBut F.env.locals h h') : StR G F dep hm A [] (fun _ => []) (List.replicate F.cx.nx none) h' := by
  have Lp : F.env.locals ∈ F.pls := .head _
  have k : ∀ b o, b ∉ [F.env.locals] → h.get? b = some o → h'.get? b = some o := fun b o hb e => (sb.2 b fun q => hb (by rw [q]; exact .head _)).trans e
  obtain ⟨m, n0⟩ := R.fm.ns
  obtain ⟨o0, es0, ep0, ho0, hd0⟩ := ns_data n0
  obtain ⟨o1, es1, ep1, ho1, hd1⟩ := ns_data n
  refine R.chg (Z := [F.env.locals]) k (fun b hb => by rw [List.mem_singleton.mp hb]; exact ⟨(R.plsZ _ Lp).1, R.newp _ Lp⟩) (fun e q z => ?_) ⟨R.fm.kf, ⟨m', n⟩, fun y c e => ?_, R.fm.look, R.fm.inj⟩ (fun b hb => by cases hb) (fun b hb => by cases hb) (fun i a ha => by cases ha) (fun i j _ a ha => by cases ha) (fun i a ha => by cases ha) (by simp) (fun y b e hb => ?_) (fun _ => ⟨o1, ho1, fun vs q => by rw [hd1] at q; cases q⟩) fun y j hy u hu => ?_
  · obtain ⟨o, vs, e1, e2⟩ := R.hnd q
    rw [List.mem_singleton.mp z, ho0] at e1; cases e1; rw [hd0] at e2; cases e2
  · obtain ⟨w, o, q1, q2⟩ := R.fm.cell y c e
    refine ⟨w, o, k c o (fun z => ?_) q1, q2⟩
    rw [List.mem_singleton.mp z, ho0] at q1; cases q1; rw [hd0] at q2; cases q2
  · rw [List.mem_singleton.mp hb]; exact ⟨o1, ho1⟩
  · rw [List.getElem?_replicate] at hu
    split at hu <;> cases hu

theorem okRet_TR (R : StR G F dep hm A pl op ρ h) {m' : Str → Option Value} (n : h'.Ns F.env.locals m') (sb : Heap.SameBut F.env.locals h h') (r : TR G.ca F.h₀ (F.pls ++ F.hid0) F.fr0 h v u) (ok : okRet u) : TR G.ca F.h₀ (F.pls ++ F.hid0) F.fr0 h' v u := by
  have Lp : F.env.locals ∈ F.pls := .head _
  have k : ∀ b o, b ≠ F.env.locals → h.get? b = some o → h'.get? b = some o := fun b o hb e => (sb.2 b hb).trans e
  have k' : ∀ b o, b ∉ F.pls ++ F.hid0 → h.get? b = some o → b ∉ F.pls ++ F.hid0 ∧ h'.get? b = some o := fun b o hb e => ⟨hb, k b o (fun z => hb (List.mem_append_left _ (z ▸ Lp))) e⟩
  cases u with
  | d y => exact Rd.move r k'
  | own y =>
    cases y with
    | list xs =>
      obtain ⟨a, rfl, na, q⟩ := r
      refine ⟨a, rfl, na, OwnAt.moves q k' fun o e => k a o (fun z => ?_) e⟩
      obtain ⟨vs, nn, e1, _⟩ := q
      obtain ⟨m, n0⟩ := R.fm.ns
      obtain ⟨o0, es0, ep0, ho0, hd0⟩ := ns_data n0
      rw [z, ho0] at e1; cases e1; cases hd0
    | _ => exact ok.elim
  | _ => exact ok.elim

theorem try_case (O : G.Ok) (IS : SSt G Φ dep n) {c : Str} {body hb : List Stmt} {h0 : Stmt} {k : Nat} {b' h1 : Ss} {p1 p2 pos : Pos} (hg : F.cx.glob c = true) (hl : F.cx.kd.lookup x = some .local) (hc : F.cx.cls.lookup c = some k) (hv : F.cx.var x = some i) (lb : lowSs (lowS n F.cx) body = some b') (lh : lowSs (lowS n F.cx) (h0 :: hb) = some h1)
    (R : StR G F dep hm A pl op ρ s.heap) (w : wpS Φ hm (.tryx b' k i h1) ρ K X) (out : Out G F dep hm A pl op s K X Q E) :
    wpAny (model G.prog G.w) A (exec (.Try body [.ExceptHandler (some (.Name c p1)) (some x) (h0 :: hb) p2] [] [] pos) F.env) Q E s := by
  refine wpAny_Try_except (seq_ok IS lb R w ⟨fun s' pl' op' ρ' R' a m hk => wpAny_execs_nil (out.nxt _ _ _ _ R' a m hk), fun s' v u pl' op' ρ' ρ'' R' r m hk => out.ret _ _ _ _ _ _ _ R' r m hk, fun s' e c' C fl pl' op' ρ' R' hC hfl Fl m w' => ?_⟩)
  obtain ⟨hk0, hmf, w'⟩ := w'
  subst hmf
  have hA : A.handled = none := by
    rcases R.hok with z | z
    · exact z.2
    · cases z.1
  refine note_any R'.stk R.base0 R.frame R'.extF hfl Fl fun h2 x2 F2 n2 => ?_
  refine flight_ok (fo := none) (s := { s' with heap := h2 }) x2 F2 (fun _ => rfl) fun h3 x3 F3 n3 => ?_
  have R3 := R'.noted x3 (n2.trans n3)
  obtain ⟨C', hC', hns⟩ := O.cnm c k (by rw [← R.envok.cls]; exact hc)
  have R4 : StR G F dep true (A.mark (some (.ref e))) pl' op' ρ' h3 := R3.remode rfl rfl rfl (.inr ⟨rfl, e, rfl, F3.bare⟩)
  refine wpAny_handleBy_cons (codeAny_handlers_test (name_own (s := { s' with heap := h3 }) O R4.sit hg hns ?_)) (by intro q; cases q)
  have F3' := F3
  obtain ⟨ne, oe, vs, e1, e2, e3, e4, e5, _⟩ := F3
  refine match_ok (s := { s' with heap := h3 }) (A := A.mark (some (.ref e))) O hC hC' R4.stk e1 e2 ?_ (codeAny_handlers_suite_as ?_)
  · rcases hk0 with rfl | rfl <;> simp
  refine flight_ok (fo := none) (s := { s' with heap := h3 }) x3 F3' (fun _ => rfl) fun h4 x4 F4 n4 => ?_
  have R5 := R4.noted x4 n4
  refine R5.store (P := []) (s := { s' with heap := h4 }) hv (u := .exc c') (F4.exc hC) (fun a ha => by cases ha) (fun a ha => by cases ha) (fun j _ a ha => by cases ha) fun h6 tk R6 k6 => ?_
  refine seq_ok IS (s := { s' with heap := h6, toks := tk }) lh R6 w' ⟨fun s7 pl7 op7 ρ7 R7 a7 m7 hk => hk.elim, fun s7 v7 u7 pl7 op7 ρ7 ρ7' R7 r7 m7 hk => ?_, fun s7 e7 c7 C7 fl7 pl7 op7 ρ7 R7 q1 q2 q3 m7 hk => hk.elim⟩
  obtain ⟨m0, n0⟩ := R7.fm.ns
  refine wpAny_nameGoes (by unfold Env.kindOf; rw [R.envok.names]; exact hl) n0 (by rw [R.envok.kind]; rfl) fun h8 m8 n8 sb8 => ?_
  have R7' : StR G F dep false A pl7 op7 ρ7' s7.heap := R7.remode rfl rfl rfl (.inl ⟨rfl, hA⟩)
  exact out.ret { s7 with heap := h8, toks := _ } v7 u7 _ _ ρ7 _ (R7'.unname n8 sb8) (okRet_TR R7 n8 sb8 r7 hk.1) ⟨m7.1.trans m.1, m7.2.trans m.2⟩ hk.2
end
end TC

namespace TC
open PySem PySem.W PyProof.Rows

theorem ss_all {G : Gl} {Φ : Call} {dep : Nat} (O : G.Ok) (IC : SC G Φ dep) : ∀ n, SSt G Φ dep n
  | 0 => fun F hm A pl op ρ s st t K X Q E lo => by cases lo
  | n + 1 => fun F hm A pl op ρ s st t K X Q E lo R w out => by
    have IS := ss_all O IC n
    obtain ⟨IH, IT⟩ := se_all O IC n
    cases st with
    | Assign ts v p =>
      cases ts with
      | nil => exact nope lo
      | cons tg ts =>
        cases tg with
        | Name x q =>
          cases ts with
          | cons => exact nope lo
          | nil =>
            obtain ⟨i, h1, lo⟩ := Option.bind_eq_some_iff.mp (show ((F.cx.var x).bind fun i => (lowE n F.cx v).map fun e => S.asg (F.cx.ow.contains i) i e) = some t from lo)
            obtain ⟨e, h2, rfl⟩ := Option.map_eq_some_iff.mp lo
            cases n with
            | zero => cases h2
            | succ m => exact asg_case O (se_all O IC m).1 (se_all O IC m).2 IH h1 h2 R w out
        | Tuple es c q =>
          cases ts with
          | cons => exact nope lo
          | nil =>
            cases v with
            | Call f args kws q' =>
              obtain ⟨is, h1, lo⟩ := Option.bind_eq_some_iff.mp (show ((lowUnp F.cx es).bind fun is => if is.all (fun q => !q.1) && (is.map (·.2)).Nodup then (lowE n F.cx (.Call f args kws q')).map fun e => S.unp is e else none) = some t from lo)
              split at lo
              · rename_i hq
                obtain ⟨e, h2, rfl⟩ := Option.map_eq_some_iff.mp lo
                exact unp_case IH h1 (Bool.and_eq_true_iff.mp hq).1 h2 R w out
              · cases lo
            | _ => exact nope lo
        | Subscript a k q =>
          cases a with
          | Name x q' =>
            cases ts with
            | cons => exact nope lo
            | nil =>
              replace lo : (if notComp v then (F.cx.var x).bind fun i => (lowE n F.cx k).bind fun k => (lowE n F.cx v).map fun v => S.set i k v else none) = some t := lo
              split at lo
              · rename_i hq
                obtain ⟨i, h1, lo⟩ := Option.bind_eq_some_iff.mp lo
                obtain ⟨k, h2, lo⟩ := Option.bind_eq_some_iff.mp lo
                obtain ⟨v, h3, rfl⟩ := Option.map_eq_some_iff.mp lo
                exact set_case IH h1 h2 h3 hq R w out
              · cases lo
          | _ => exact nope lo
        | _ => exact nope lo
    | Expr e p =>
      cases e with
      | Call f args kws q =>
        cases f with
        | Attribute a m ap =>
          cases a with
          | Name x q' =>
            cases args with
            | nil => exact nope lo
            | cons a args =>
              cases args with
              | cons => exact nope lo
              | nil =>
                cases kws with
                | cons => exact nope lo
                | nil =>
                  replace lo : (if !(ap.endLine == q.line) then none else (F.cx.var x).bind fun i => (lowE n F.cx a).bind fun a => if m == "append" then some (S.app i a) else if m == "remove" then some (S.rem i a) else none) = some t := lo
                  split at lo
                  · cases lo
                  · rename_i hq
                    simp only [Bool.not_eq_true', Bool.not_eq_false] at hq
                    obtain ⟨i, h1, lo⟩ := Option.bind_eq_some_iff.mp lo
                    obtain ⟨a, h2, lo⟩ := Option.bind_eq_some_iff.mp lo
                    split at lo
                    · rename_i z; cases lo
                      rw [beq_iff_eq.mp z]
                      exact app_case IH hq h1 h2 R w out
                    · split at lo
                      · rename_i z; cases lo
                        rw [beq_iff_eq.mp z]
                        exact rem_case IH hq h1 h2 R w out
                      · cases lo
          | _ => exact nope lo
        | Name f p1 =>
          obtain ⟨e, h2, rfl⟩ := Option.map_eq_some_iff.mp (show (lowE n F.cx (.Call (.Name f p1) args kws q)).map S.drop = some t from lo)
          exact drop_case IH h2 R w out
        | _ => exact nope lo
      | _ => exact nope lo
    | If c a b p =>
      obtain ⟨t, h1, lo⟩ := Option.bind_eq_some_iff.mp (show ((lowE n F.cx c).bind fun t => (lowSs (lowS n F.cx) a).bind fun a => (lowSs (lowS n F.cx) b).map fun b => S.ite t a b) = some t from lo)
      obtain ⟨a, h2, lo⟩ := Option.bind_eq_some_iff.mp lo
      obtain ⟨b, h3, rfl⟩ := Option.map_eq_some_iff.mp lo
      exact ite_case IT IS h1 h2 h3 R w out
    | For tg iter body orelse p =>
      cases orelse with
      | cons => exact nope lo
      | nil =>
        obtain ⟨t, h1, lo⟩ := Option.bind_eq_some_iff.mp (show ((lowTgt F.cx tg).bind fun t => (lowSrcL (lowE n F.cx) F.cx iter).bind fun src => (lowSs (lowS n F.cx) body).map fun b => S.loop t src b) = some t from lo)
        obtain ⟨a, h2, lo⟩ := Option.bind_eq_some_iff.mp lo
        obtain ⟨b, h3, rfl⟩ := Option.map_eq_some_iff.mp lo
        exact loop_case O IH IS h1 h2 h3 R w out
    | Return o p =>
      cases o with
      | none => exact nope lo
      | some e =>
        have plain : ∀ {e : Expr}, (lowE n F.cx e).map S.ret = some t → wpAny (model G.prog G.w) A (exec (.Return (some e) p) F.env) Q E s := fun lo => by
          obtain ⟨e, h2, rfl⟩ := Option.map_eq_some_iff.mp lo
          exact ret_case IH h2 R w out
        cases e with
        | Name x q =>
          replace lo : (match F.cx.var x with | some i => some (S.retm i) | none => (lowE n F.cx (.Name x q)).map S.ret) = some t := lo
          split at lo
          · rename_i i h1; cases lo
            exact retm_case h1 R w out
          · exact plain lo
        | Tuple es c q =>
          replace lo : (if es.length < 1000 then (lowL (lowE n F.cx) es).map S.rett else none) = some t := lo
          split at lo
          · rename_i hq
            obtain ⟨e, h2, rfl⟩ := Option.map_eq_some_iff.mp lo
            exact rett_case IH h2 hq R w out
          · cases lo
        | _ => exact plain lo
    | Raise o c p =>
      cases o with
      | none => exact nope lo
      | some e =>
        cases e with
        | Call f args kws q =>
          cases f with
          | Name x q' =>
            cases args with
            | nil => exact nope lo
            | cons a args =>
              cases a with
              | Constant v k q'' =>
                cases v with
                | str msg =>
                  cases args with
                  | cons => exact nope lo
                  | nil =>
                    cases kws with
                    | cons => exact nope lo
                    | nil =>
                      cases c with
                      | some => exact nope lo
                      | none =>
                        replace lo : (if F.cx.glob x then (F.cx.cls.lookup x).map S.rais else none) = some t := lo
                        split at lo
                        · rename_i hq
                          obtain ⟨k, h2, rfl⟩ := Option.map_eq_some_iff.mp lo
                          exact rais_case O hq h2 R w out
                        · cases lo
                | _ => exact nope lo
              | _ => exact nope lo
          | _ => exact nope lo
        | _ => exact nope lo
    | Try body hs orelse fin p =>
      cases hs with
      | nil => exact nope lo
      | cons hd hs =>
        cases hd with
        | ExceptHandler ty nm hb q =>
          cases ty with
          | none => exact nope lo
          | some ty =>
            cases ty with
            | Name c q' =>
              cases nm with
              | none => exact nope lo
              | some x =>
                cases hb with
                | nil => exact nope lo
                | cons h0 h =>
                  cases hs with
                  | cons => exact nope lo
                  | nil =>
                    cases orelse with
                    | cons => exact nope lo
                    | nil =>
                      cases fin with
                      | cons => exact nope lo
                      | nil =>
                        replace lo : (if F.cx.glob c && F.cx.kd.lookup x == some .local then (F.cx.cls.lookup c).bind fun c => (F.cx.var x).bind fun k => (lowSs (lowS n F.cx) body).bind fun b => (lowSs (lowS n F.cx) (h0 :: h)).map fun h => S.tryx b c k h else none) = some t := lo
                        split at lo
                        · rename_i hq
                          obtain ⟨q1, q2⟩ := Bool.and_eq_true_iff.mp hq
                          obtain ⟨k, h1, lo⟩ := Option.bind_eq_some_iff.mp lo
                          obtain ⟨i, h2, lo⟩ := Option.bind_eq_some_iff.mp lo
                          obtain ⟨b, h3, lo⟩ := Option.bind_eq_some_iff.mp lo
                          obtain ⟨h, h4, rfl⟩ := Option.map_eq_some_iff.mp lo
                          exact try_case O IS q1 (beq_iff_eq.mp q2) h1 h2 h3 h4 R w out
                        · cases lo
            | _ => exact nope lo
    | _ => exact nope lo
end TC

namespace TC
open PySem PySem.W PyProof.Rows

/-! Calls. -/

/-! names and their slots -/
theorem slots_mem : ∀ {names : List (Str × NameKind)} {n : Nat} {x : Str} {i : Nat}, (x, i) ∈ slotsOf names n → n ≤ i ∧ ((x, NameKind.local) ∈ names ∨ (x, NameKind.cell) ∈ names)
  | [], n, x, i, h => by cases h
  | (y, k) :: r, n, x, i, h => by
    unfold slotsOf at h
    split at h
    · cases ‹_›
    · rename_i heq; cases heq
      rcases List.mem_cons.mp h with e | h
      · cases e; exact ⟨Nat.le_refl _, .inl (.head _)⟩
      · have := slots_mem h
        exact ⟨by omega, this.2.imp (.tail _) (.tail _)⟩
    · rename_i heq; cases heq
      rcases List.mem_cons.mp h with e | h
      · cases e; exact ⟨Nat.le_refl _, .inr (.head _)⟩
      · have := slots_mem h
        exact ⟨by omega, this.2.imp (.tail _) (.tail _)⟩
    · rename_i heq; cases heq
      have := slots_mem h
      exact ⟨this.1, this.2.imp (.tail _) (.tail _)⟩
theorem slots_inj : ∀ {names : List (Str × NameKind)} {n : Nat} {x y : Str} {i : Nat}, (x, i) ∈ slotsOf names n → (y, i) ∈ slotsOf names n → x = y
  | [], n, x, y, i, h, _ => by cases h
  | (z, k) :: r, n, x, y, i, h, h' => by
    have both : ∀ {m}, (x, i) ∈ (z, n) :: slotsOf r m → (y, i) ∈ (z, n) :: slotsOf r m → n < m → x = y := fun {m} h h' lt => by
      rcases List.mem_cons.mp h with e | h <;> rcases List.mem_cons.mp h' with e' | h'
      · cases e; cases e'; rfl
      · cases e; have := (slots_mem h').1; omega
      · cases e'; have := (slots_mem h).1; omega
      · exact slots_inj h h'
    cases k with
    | «local» => exact both h h' (Nat.lt_succ_self n)
    | cell => exact both h h' (Nat.lt_succ_self n)
    | _ => exact slots_inj (names := r) h h'
theorem lookup_mem {α : Type} : ∀ {l : List (Str × α)} {x : Str} {k : α}, (l.map (·.1)).Nodup → (x, k) ∈ l → l.lookup x = some k
  | (y, k') :: r, x, k, nd, h => by
    obtain ⟨n1, n2⟩ := List.nodup_cons.mp nd
    rw [List.lookup_cons]
    rcases List.mem_cons.mp h with e | h
    · cases e; rw [beq_self_eq_true]
    · have : (x == y) = false := Bool.eq_false_iff.mpr fun q => n1 (by rw [← beq_iff_eq.mp q]; exact List.mem_map.mpr ⟨(x, k), h, rfl⟩)
      rw [this]; exact lookup_mem n2 h
theorem cells_mem : ∀ {names : List (Str × NameKind)} {n : Nat} {acc : List (Str × Addr)} {x : Str} {c : Addr}, (x, c) ∈ cellsFrom n names acc → (x, c) ∈ acc ∨ (x, NameKind.cell) ∈ names
  | [], n, acc, x, c, h => .inl h
  | (y, k) :: r, n, acc, x, c, h => by
    unfold cellsFrom at h
    split at h
    · rename_i hk
      rcases cells_mem h with h | h
      · rcases List.mem_cons.mp h with e | h
        · cases e; right; rw [beq_iff_eq.mp hk]; exact .head _
        · exact .inl h
      · exact .inr (.tail _ h)
    · exact (cells_mem h).imp id (.tail _)
theorem cells_uniq : ∀ {names : List (Str × NameKind)} {n : Nat} {acc : List (Str × Addr)}, (names.map (·.1)).Nodup → (acc.map (·.1)).Nodup → (∀ p ∈ acc, p.1 ∉ names.map (·.1)) → ((cellsFrom n names acc).map (·.1)).Nodup
  | [], n, acc, _, h, _ => h
  | (y, k) :: r, n, acc, nd, h, d => by
    obtain ⟨n1, n2⟩ := List.nodup_cons.mp nd
    unfold cellsFrom
    split
    · refine cells_uniq n2 (List.nodup_cons.mpr ⟨fun q => ?_, h⟩) fun p hp q => ?_
      · obtain ⟨p, hp, e⟩ := List.mem_map.mp q
        exact d p hp (by rw [e]; exact .head _)
      · rcases List.mem_cons.mp hp with rfl | hp
        · exact n1 q
        · exact d p hp (.tail _ q)
    · exact cells_uniq n2 h fun p hp q => d p hp (.tail _ q)
theorem cells_keep : ∀ {names : List (Str × NameKind)} {n : Nat} {acc : List (Str × Addr)} {p : Str × Addr}, p ∈ acc → p ∈ cellsFrom n names acc
  | [], n, acc, p, h => h
  | (y, k) :: r, n, acc, p, h => by
    unfold cellsFrom
    split
    · exact cells_keep (.tail _ h)
    · exact cells_keep h
theorem cells_have : ∀ {names : List (Str × NameKind)} {n : Nat} {acc : List (Str × Addr)} {x : Str}, (x, NameKind.cell) ∈ names → ∃ c, (x, c) ∈ cellsFrom n names acc
  | (y, k) :: r, n, acc, x, h => by
    unfold cellsFrom
    rcases List.mem_cons.mp h with e | h
    · cases e
      rw [if_pos (by decide)]
      exact ⟨n, cells_keep (.head _)⟩
    · split
      · exact cells_have h
      · exact cells_have h

theorem bindL_other {kd : Str → Option NameKind} : ∀ {b : List (Str × Value)} {m : Str → Option Value} {x : Str}, (∀ p ∈ b, p.1 ≠ x) → bindL kd b m x = m x
  | [], m, x, _ => rfl
  | (y, v) :: r, m, x, h => by
    unfold bindL
    rw [bindL_other fun p hp => h p (.tail _ hp)]
    split
    · exact if_neg fun e => h (y, v) (.head _) e.symm
    · rfl
theorem bindL_at {kd : Str → Option NameKind} : ∀ {b : List (Str × Value)} {m : Str → Option Value} {x : Str} {v : Value}, (b.map (·.1)).Nodup → (x, v) ∈ b → kd x = some .local → bindL kd b m x = some v
  | (y, w) :: r, m, x, v, nd, h, hk => by
    obtain ⟨n1, n2⟩ := List.nodup_cons.mp nd
    unfold bindL
    rcases List.mem_cons.mp h with e | h
    · cases e
      rw [bindL_other fun p hp e => n1 (List.mem_map.mpr ⟨p, hp, e⟩), if_pos hk]
      exact if_pos rfl
    · exact bindL_at n2 h hk
theorem bindC_other {kd : Str → Option NameKind} : ∀ {b : List (Str × Value)} {m : Str → Option Value} {x : Str}, (∀ p ∈ b, p.1 ≠ x) → bindC kd b m x = m x
  | [], m, x, _ => rfl
  | (y, v) :: r, m, x, h => by
    unfold bindC
    rw [bindC_other fun p hp => h p (.tail _ hp)]
    split
    · rfl
    · exact if_neg fun e => h (y, v) (.head _) e.symm
theorem bindC_at {kd : Str → Option NameKind} : ∀ {b : List (Str × Value)} {m : Str → Option Value} {x : Str} {v : Value}, (b.map (·.1)).Nodup → (x, v) ∈ b → kd x ≠ some .local → bindC kd b m x = some v
  | (y, w) :: r, m, x, v, nd, h, hk => by
    obtain ⟨n1, n2⟩ := List.nodup_cons.mp nd
    unfold bindC
    rcases List.mem_cons.mp h with e | h
    · cases e
      rw [bindC_other fun p hp e => n1 (List.mem_map.mpr ⟨p, hp, e⟩), if_neg hk]
      exact if_pos rfl
    · exact bindC_at n2 h hk

theorem TRs.at {ca : List Addr} {h₁ : Heap} {hid fr : List Addr} {h : Heap} : ∀ {vs : List Value} {us : List V} {i : Nat} {u : V}, TRs ca h₁ hid fr h vs us → us[i]? = some u → ∃ v, vs[i]? = some v ∧ TR ca h₁ hid fr h v u
  | _ :: _, _ :: _, 0, _, ⟨a, _⟩, e => by cases e; exact ⟨_, rfl, a⟩
  | _ :: _, _ :: _, i + 1, _, ⟨_, b⟩, e => TRs.at (i := i) b e
  | [], [], i, _, _, e => by cases e
  | [], _ :: _, _, _, h, _ => h.elim
  | _ :: _, [], _, _, h, _ => h.elim

/-- what a def hands back, seen from outside -/
theorem TR.outer {ca : List Addr} {h₁ : Heap} {pls hid fr : List Addr} {h : Heap} {v : Value} {u : V} (r : TR ca h₁ (pls ++ hid) fr h v u) : TR ca h₁ hid fr h v u := by
  have sub : ∀ b ∈ hid, b ∈ pls ++ hid := fun b hb => List.mem_append_right _ hb
  cases u with
  | d x => exact Rd.anti r sub
  | brw x => exact r
  | own x => obtain ⟨a, rfl, na, q⟩ := r; exact ⟨a, rfl, na, q.anti sub⟩
  | ot l =>
    obtain ⟨t, vs, n, as, rfl, ht, nd, q⟩ := r
    have s2 : ∀ b ∈ as ++ hid, b ∈ as ++ (pls ++ hid) := fun b hb => by
      rcases List.mem_append.mp hb with z | z
      · exact List.mem_append_left _ z
      · exact List.mem_append_right _ (sub b z)
    exact ⟨t, vs, n, as, rfl, ht, nd, PartsR.moves (P := as) (fun b o hb e => ⟨fun z => hb (s2 b z), e⟩) (fun r _ _ => r.anti s2) (fun _ a => a) q⟩
  | exc c => exact r
end TC

namespace TC
open PySem PySem.W PyProof.Rows

theorem fn_facts {fns cls : List (Str × Nat)} {cst : List (Str × Int)} {fn : Fn} {ow : List Nat} {params : Arguments} {scope : Scope} {body : List Stmt} {b : Ss} (h : fnMatch fns cls cst fn ow params scope body = some b) :
    scope.kind = .function ∧ scope.isGenerator = false ∧ scope.isCoroutine = false ∧ (scope.names.map (·.1)).Nodup ∧ (∀ p ∈ scope.names, p.2 ≠ .free) ∧ (params.args.map fun a => (slotsOf scope.names 0).lookup a.arg) = (List.range fn.np).map some ∧ (slotsOf scope.names 0).length = fn.ns ∧
    lowSs (lowS 40 { kd := scope.names, tb := slotsOf scope.names 0, nx := fn.ns, fns := fns, cls := cls, cst := cst, ow := ow }) body = some b := by
  unfold fnMatch at h
  simp only at h
  split at h
  · rename_i q
    simp only [Bool.and_eq_true, beq_iff_eq, Bool.not_eq_true', decide_eq_true_eq, List.all_eq_true, bne_iff_ne] at q
    obtain ⟨⟨⟨⟨⟨⟨⟨⟨⟨⟨⟨q1, q2⟩, q3⟩, q4⟩, q5⟩, q6⟩, q7⟩, q8⟩, q9⟩, q10⟩, q11⟩, q12⟩ := q
    exact ⟨q1, q2, q3, q4, q5, q11, q12, h⟩
  · cases h

/-- the arguments' names -/
theorem args_at {names : List (Str × NameKind)} {args : List Arg} {np : Nat} (h : (args.map fun a => (slotsOf names 0).lookup a.arg) = (List.range np).map some) :
    (args.map (·.arg)).length = np ∧ (args.map (·.arg)).Nodup ∧ ∀ i nm, (args.map (·.arg))[i]? = some nm → (slotsOf names 0).lookup nm = some i := by
  have l : args.length = np := by have := congrArg List.length h; simpa using this
  have e : (args.map (·.arg)).map ((slotsOf names 0).lookup ·) = (List.range np).map some := by rw [List.map_map]; exact h
  refine ⟨by rw [List.length_map, l], ?_, fun i nm q => ?_⟩
  · have nd : List.Nodup ((List.range np).map some) := by
      refine List.Pairwise.map some (fun a b ne e => ne (Option.some.inj e)) List.nodup_range
    rw [← e] at nd
    exact List.Pairwise.of_map _ (fun a b ne e => ne (by rw [e])) nd
  · have := congrArg (·[i]?) e
    simp only [List.getElem?_map] at this q
    rw [q] at this
    simp only [Option.map_some] at this
    have lt : i < np := by
      obtain ⟨x, hx, _⟩ := Option.map_eq_some_iff.mp q
      have := (List.getElem?_eq_some_iff.mp hx).1
      omega
    rw [List.getElem?_range lt] at this
    exact Option.some.inj this
theorem zip_at {α β : Type} : ∀ {a : List α} {b : List β} {p : α × β}, p ∈ a.zip b → ∃ i : Nat, a[i]? = some p.1 ∧ b[i]? = some p.2
  | _ :: _, _ :: _, p, h => by
    rw [List.zip_cons_cons] at h
    rcases List.mem_cons.mp h with rfl | h
    · exact ⟨0, rfl, rfl⟩
    · obtain ⟨i, h1, h2⟩ := zip_at h; exact ⟨i + 1, h1, h2⟩
  | [], _, p, h => by cases h
  | _ :: _, [], p, h => by cases h
theorem zip_mem {α β : Type} : ∀ {a : List α} {b : List β} {i : Nat} {x : α} {y : β}, a[i]? = some x → b[i]? = some y → (x, y) ∈ a.zip b
  | _ :: _, _ :: _, 0, x, y, h1, h2 => by cases h1; cases h2; exact .head _
  | _ :: _, _ :: _, i + 1, x, y, h1, h2 => .tail _ (zip_mem (i := i) h1 h2)
  | [], _, i, x, y, h1, _ => by cases h1
  | _ :: _, [], i, x, y, _, h2 => by cases h2
theorem zip_fst {α β : Type} {a : List α} {b : List β} (h : a.length = b.length) : (a.zip b).map (·.1) = a := List.map_fst_zip (Nat.le_of_eq h)
theorem kind_of {names : List (Str × NameKind)} (nd : (names.map (·.1)).Nodup) {x : Str} {i : Nat} (h : (slotsOf names 0).lookup x = some i) : names.lookup x = some .local ∨ names.lookup x = some .cell := by
  rcases (slots_mem (mem_of_lookup h)).2 with z | z
  · exact .inl (lookup_mem nd z)
  · exact .inr (lookup_mem nd z)

section
variable {G : Gl} {A : Around} {s : Shared}

/-- a call, one level up -/
theorem sc_step (O : G.Ok) {m : Nat} (IC : SC G (wpCall G.tab m) m) (hm : Bool) (A : Around) (s : Shared) (hid fr : List Addr) (envs : List Env) (f : Nat) (a : Addr) (vs : List Value) (us : List V) (K : V → Prop) (X : Nat → Prop) (Q : Value → Shared → Prop) (E : Value → Shared → Prop)
    (hf : G.fa[f]? = some a) (C : CSit G (m + 1) hm A s.heap hid fr envs) (r : TRs G.ca s.heap hid fr s.heap vs us) (ha : ∀ u ∈ us, argV u = u) (w : wpCall G.tab (m + 1) hm f us K X) (k : Ends G hid fr s K Q) (t : Thrown G fr s X E) :
    codeAny (model G.prog G.w) A (.call (.ref a) ⟨vs, []⟩) (fun r s' => match r with | .ok (.ret v) => Q v s' | .ok _ => False | .error e => E e s') s := by
    have IS := ss_all O IC 40
    obtain ⟨d, fn, ow, hd, hns, htab, hmt, hbind⟩ := O.fok f a hf
    have w : got (G.tab[f]?) fun fn => us.length = fn.np ∧ fn.np ≤ fn.ns ∧ wpSs (wpCall G.tab m) hm fn.body (us.map some ++ List.replicate (fn.ns - fn.np) none) (fun fl _ => match fl with | .nxt => K (.d .none) | .ret v => K v) (fun c _ => X c) := w
    rw [htab] at w
    obtain ⟨lu, lp, w⟩ : us.length = fn.np ∧ fn.np ≤ fn.ns ∧ wpSs (wpCall G.tab m) hm fn.body (us.map some ++ List.replicate (fn.ns - fn.np) none) (fun fl _ => match fl with | .nxt => K (.d .none) | .ret v => K v) (fun c _ => X c) := w
    obtain ⟨f1, f2, f3, f4, f5, f6, f7, f8⟩ := fn_facts hmt
    obtain ⟨a', o, pm, code, doc, e1, e2, e3, e4⟩ := O.top.fn d hd
    have ea : a' = a := by
      have := mg_of O.inK O.top.g hns
      rw [this] at e1; cases e1; rfl
    subst ea
    have e2' := C.stk.base _ _ e2
    have lv : vs.length = fn.np := by rw [r.length, lu]
    refine codeAny_call_cells (fd := Calls.docDef d.name d.params d.body d.scope pm code doc) ?_ e2' e3 (O.top.nolimit.keeps C.stk.base) (e4.keeps C.stk.base) rfl (hbind pm code doc vs lv) rfl ?_ (fun s₁ x => ?_) f3 f2 f1
    · have := C.depth; have : recursionLimit = 1000 := rfl; omega
    · intro p hp
      obtain ⟨i, h1, h2⟩ := zip_at hp
      have h3 := (args_at f6).2.2 i p.1 h1
      rcases kind_of f4 h3 with z | z
      · exact .inl z
      · obtain ⟨c, hc⟩ := cells_have (n := s.heap.objs.size + 1) (acc := []) (mem_of_lookup z)
        refine .inr ⟨z, ?_⟩
        show ((cellsFrom (s.heap.objs.size + 1) d.scope.names []).lookup p.1).isSome = true
        rw [lookup_mem (cells_uniq f4 (by simp) (fun p hp => by cases hp)) hc]; rfl
    · obtain ⟨h1, tk1, es⟩ := x.toInCall.same
      have sm : Same s s₁ := by rw [es]; exact ⟨rfl, rfl⟩
      let cx : Cx := { kd := d.scope.names, tb := slotsOf d.scope.names 0, nx := fn.ns, fns := G.fns, cls := G.cls, cst := G.cst, ow := ow }
      let env : Env := callEnvC (Calls.docDef d.name d.params d.body d.scope pm code doc) s.heap.objs.size a'
      let F : Fx := { cx := cx, env := env, own := env.cells, h₀ := s.heap, hid0 := hid, fr0 := fr, envs0 := envs }
      have cu : (env.cells.map (·.1)).Nodup := cells_uniq f4 (by simp) (fun p hp => by cases hp)
      have keep := x.toInCall.keep
      have kof : ∀ y, env.kindOf y = d.scope.names.lookup y := fun y => rfl
      have noty : ∀ y, d.scope.names.lookup y ≠ some .free := fun y q => f5 _ (mem_of_lookup q) rfl
      have newp : ∀ b ∈ F.pls, s.heap.get? b = none := fun b hb => by
        rcases List.mem_cons.mp hb with rfl | hb
        · exact size_none _
        · obtain ⟨⟨y, c⟩, hm', rfl⟩ := List.mem_map.mp hb
          have := x.above y c hm'
          exact Heap.get?_none_of_le (Nat.le_of_lt this)
      have R0 : StR G F m hm (A.deeper env) [] (fun _ => []) (us.map some ++ List.replicate (fn.ns - fn.np) none) s₁.heap := by
        refine ⟨Ext.of_keeps keep, ⟨f1, ⟨_, x.toInCall.ns⟩, fun y c e => ⟨_, x.cell y c e⟩, fun y c e => e, fun y c e z e' => name_of_addr x.apart (mem_of_lookup e') (mem_of_lookup e)⟩, fun y c hm' => lookup_mem cu hm', ⟨Around.frames_deeper C.stk.frames, ?_, ⟨?_, ?_, ?_⟩, fun b o e => keep b o (C.stk.base b o e)⟩, rfl, ?_, ?_, ?_, C.stk.base, C.sub, C.dom, newp, (fun b hb => by cases hb), (fun b hb => by cases hb), (fun i b hb => by cases hb), (fun i j _ b hb => by cases hb), (fun i b hb => by cases hb), ⟨f1, rfl, rfl, rfl, rfl, rfl, rfl, ?_, fun y q => absurd q (noty y)⟩, fun y z i h1 h2 => slots_inj (mem_of_lookup h1) (mem_of_lookup h2), ?_, ?_, fun y c e => ?_, ?_⟩
        · show env.locals :: fr = (env :: envs).filterMap (·.frame)
          rw [List.filterMap_cons]
          show env.locals :: fr = env.locals :: envs.filterMap (·.frame)
          rw [C.stk.fr]
        · rw [show env.scope.kind = .function from f1]; decide
        · obtain ⟨o', es', ep', ho', hd'⟩ := ns_data x.toInCall.ns
          refine ⟨env.locals, o', rfl, ?_, ho', fun vs q => by rw [hd'] at q; cases q⟩
          cases q : G.B.get? env.locals with
          | none => rfl
          | some ob => have := C.stk.base _ _ q; rw [show env.locals = s.heap.objs.size from rfl, size_none] at this; cases this
        · exact C.stk.funs.of_keeps fun b o q _ => ⟨o, keep b o q, rfl⟩
        · show A.depth + 1 + m ≤ 900
          have := C.depth; omega
        · show A.units + 3 + 20 * m ≤ 9000
          have := C.units; omega
        · rcases C.hok with z | ⟨z, e, z1, ob, vs', z2, z3, z4⟩
          · exact .inl z
          · exact .inr ⟨z, e, z1, ob, vs', keep _ _ z2, z3, z4⟩
        · intro y q
          rcases q with q | q
          · obtain ⟨c, hc⟩ := cells_have (n := s.heap.objs.size + 1) (acc := []) (mem_of_lookup q)
            exact ⟨c, lookup_mem cu hc⟩
          · exact absurd q (noty y)
        · intro y i hv
          obtain ⟨v1, v2, v3⟩ := var_inv hv
          rcases kind_of f4 v2 with z | z
          · exact .inl z
          · obtain ⟨c, hc⟩ := cells_have (n := s.heap.objs.size + 1) (acc := []) (mem_of_lookup z)
            exact .inr ⟨z, c, lookup_mem cu hc⟩
        · show (us.map some ++ List.replicate (fn.ns - fn.np) none).length = fn.ns
          rw [List.length_append, List.length_map, List.length_replicate]; omega
        · obtain ⟨ob, q, _⟩ := x.cell y c e; exact ⟨ob, q⟩
        · intro y i hy u hu
          have hi : us[i]? = some u := by
            by_cases lt : i < us.length
            · rw [List.getElem?_append_left (by rw [List.length_map]; exact lt), List.getElem?_map] at hu
              obtain ⟨u', hu', e⟩ := Option.map_eq_some_iff.mp hu
              cases e; exact hu'
            · rw [List.getElem?_append_right (by rw [List.length_map]; omega), List.getElem?_replicate] at hu
              split at hu <;> cases hu
          obtain ⟨v, hv, rv⟩ := r.at hi
          have li : i < (d.params.args.map (·.arg)).length := by
            rw [(args_at f6).1]; have := (List.getElem?_eq_some_iff.mp hi).1; omega
          have hn := List.getElem?_eq_getElem li
          have e := (args_at f6).2.2 i _ hn
          have ey : y = (d.params.args.map (·.arg))[i] := slots_inj (mem_of_lookup hy) (mem_of_lookup e)
          rw [← ey] at hn
          have mem := zip_mem hn hv
          have nd : (((d.params.args.map (·.arg)).zip vs).map (·.1)).Nodup := by
            rw [zip_fst (by rw [(args_at f6).1, lv])]; exact (args_at f6).2.1
          refine ⟨v, ?_, ?_⟩
          · rcases kind_of f4 hy with z | z
            · exact .inl ⟨z, _, x.toInCall.ns, bindL_at nd mem z⟩
            · obtain ⟨c, hc⟩ := cells_have (n := s.heap.objs.size + 1) (acc := []) (mem_of_lookup z)
              have hc' : env.cells.lookup y = some c := lookup_mem cu hc
              refine .inr ⟨.inl z, c, hc', ?_⟩
              have := x.cell y c hc'
              rw [bindC_at nd mem (by rw [kof, z]; intro q; cases q)] at this
              exact this
          · have au := ha u (List.mem_of_getElem? hi)
            cases u with
            | d z => exact Rd.move rv fun b o hb e => ⟨fun q => by
                rcases List.mem_append.mp (show b ∈ [] ++ (F.pls ++ hid) from q) with q | q
                · cases q
                · rcases List.mem_append.mp q with q | q
                  · rw [newp b q] at e; cases e
                  · exact hb q, keep b o e⟩
            | brw z => exact rv
            | own z => cases au
            | ot l => cases au
            | exc c =>
              obtain ⟨a2, o2, vs2, C2, q1, q2, q3, q4⟩ := rv
              exact ⟨a2, o2, vs2, C2, q1, q2, keep _ _ q3, q4⟩
      refine seq_ok IS (F := F) (s := s₁) f8 R0 w ⟨fun s' pl op ρ R' ad sm' hk => ?_, fun s' v u pl op ρ ρ' R' rv sm' hk => ?_, fun s' e c Ce fl pl op ρ R' hC hl Fl sm' hx => ?_⟩
      · exact k _ _ (.d .none) (Rd.non _ _) R'.ext (sm.trans sm') hk
      · exact k _ _ u rv.outer R'.ext (sm.trans sm') hk
      · refine leave_ok R'.stk R'.base0 rfl R'.extF hl Fl fun h2 x2 F2 => t e { s' with heap := h2 } c ⟨Ce, hC, F2, fun b o q => ?_⟩ ⟨sm'.1.trans sm.1, sm'.2.trans sm.2⟩ hx
        obtain ⟨y1, sl, y2⟩ := x2 b o q
        refine ⟨fun hb => y1 fun z => ?_, sl, y2⟩
        rw [R'.frnew b z hb] at q; cases q
theorem sc_all (O : G.Ok) : ∀ m, SC G (wpCall G.tab m) m
  | 0 => fun hm A s hid fr envs f a vs us K X Q E hf C r ha w => w.elim
  | m + 1 => fun hm A s hid fr envs f a vs us K X Q E hf C r ha w k t => wpAny_call (sc_step O (sc_all O m) hm A s hid fr envs f a vs us K X Q E hf C r ha w k t)
end
end TC

namespace TC
open PySem PySem.W PyProof.Rows

/-! From the head of a row to the small language. -/

noncomputable def recAt (p : Program) (k : Nat) : DefRec := ((recsOf p)[k]?).getD ⟨Str.empty, default, [], default, default⟩
/-- what is asked of the def k -/
structure FnOk (p : Program) (fns cls : List (Str × Nat)) (cst : List (Str × Int)) (k : Nat) (name : Str) (fn : Fn) (ow : List Nat) : Prop where
  there : ((recsOf p)[k]?).isSome = true
  name : (recAt p k).name = name
  low : fnMatch fns cls cst fn ow (recAt p k).params (recAt p k).scope (recAt p k).body = some fn.body
  bind : ∀ (pm code doc : Value) (vals : List Value), vals.length = fn.np → bindArgs (Calls.docDef (recAt p k).name (recAt p k).params (recAt p k).body (recAt p k).scope pm code doc) ⟨vals, []⟩ = pure (((recAt p k).params.args.map (·.arg)).zip vals)
theorem FnOk.mem {p : Program} {fns cls : List (Str × Nat)} {cst : List (Str × Int)} {k : Nat} {name : Str} {fn : Fn} {ow : List Nat} (x : FnOk p fns cls cst k name fn ow) : recAt p k ∈ recsOf p := by
  obtain ⟨d, hd⟩ := Option.isSome_iff_exists.mp x.there
  unfold recAt; rw [hd]; exact List.mem_of_getElem? hd

noncomputable def isInt (i : Int) : Option (Option Value) → Bool
  | some (some (.int j _)) => j == i
  | _ => false
/-- the names of the top, looked up -/
noncomputable def checkK (K : Frag) (fn : List Str) (fa : List Addr) (cn : List Str) (ca : List Addr) (cst : List (Str × Int)) : Bool :=
  (fn.zip fa).all (fun q => nsIn K mainGlobals q.1 == some (some (.ref q.2))) && (cn.zip ca).all (fun q => nsIn K mainGlobals q.1 == some (some (.ref q.2)))
    && cst.all (fun q => isInt q.2 (nsIn K mainGlobals q.1)) && usedNames.all (fun x => nsIn K mainGlobals x == some none) && ca.all (ownOk1 K)
    && (List.range ca.length).all fun c => (List.range ca.length).all fun c' => mroIn K (ca.getD c 0) (.ref (ca.getD c' 0)) == some (c' == 0 || c == c')

/-- the own classes, as the top tells them -/
noncomputable def checkO (p : Program) (cn : List Str) : Bool := cn.all fun x => (ownsOf p).any fun o => o.name == x && o.bm == bmV && o.newId == "ValueError.__new__"
theorem zipIdx_lookup {l : List Str} {x : Str} {k : Nat} (h : l.zipIdx.lookup x = some k) : l[k]? = some x := by
  have := mem_of_lookup h
  exact List.mk_mem_zipIdx_iff_getElem?.mp this
theorem zip_get {α β : Type} {a : List α} {b : List β} {k : Nat} {x : α} (l : a.length = b.length) (h : a[k]? = some x) : ∃ y, b[k]? = some y ∧ (x, y) ∈ a.zip b := by
  have lt := (List.getElem?_eq_some_iff.mp h).1
  have hb : b[k]? = some b[k] := List.getElem?_eq_getElem (l ▸ lt)
  exact ⟨_, hb, zip_mem h hb⟩

theorem gl_ok {prog : Program} {w : World} {K : Frag} {B : Heap} {p : Program} {loose : List Str} {mean : ExcName → Option Value} {mg mb : Str → Option Value} (fn : List Str) (fa : List Addr) (cn : List Str) (ca : List Addr) (cst : List (Str × Int)) (tab : List Fn) (ows : List (List Nat))
    (KX : K.In B) (T : Top p loose mean mg mb B) (ck : checkK K fn fa cn ca cst = true) (co : checkO p cn = true) (l1 : fn.length = fa.length) (l2 : cn.length = ca.length) (l3 : tab.length = fa.length)
    (fo : ∀ k x f, fn[k]? = some x → tab[k]? = some f → ∃ ow, FnOk p fn.zipIdx cn.zipIdx cst k x f ow) : (Gl.mk prog w K B p loose mean mg mb fn.zipIdx fa cn.zipIdx ca cst tab).Ok := by
  unfold checkK at ck
  simp only [Bool.and_eq_true, List.all_eq_true, beq_iff_eq] at ck
  obtain ⟨⟨⟨⟨⟨c1, c2⟩, c3⟩, c4⟩, c5⟩, c6⟩ := ck
  refine ⟨KX, T, fun x k h => ?_, fun x k h => ?_, fun x i h => ?_, c4, fun k a h => ?_, fun c C h => c5 C (List.mem_of_getElem? h), fun c C c' C' h h' => ?_, fun c C h => ?_⟩
  · obtain ⟨a, h1, h2⟩ := zip_get l1 (zipIdx_lookup h)
    exact ⟨a, h1, c1 _ h2⟩
  · obtain ⟨a, h1, h2⟩ := zip_get l2 (zipIdx_lookup h)
    exact ⟨a, h1, c2 _ h2⟩
  · have := c3 _ (mem_of_lookup h)
    unfold isInt at this
    split at this
    · rename_i j t e
      rw [beq_iff_eq.mp this] at e
      exact ⟨t, e⟩
    · cases this
  · obtain ⟨x, h1, h2⟩ := zip_get l1.symm h
    have lt := (List.getElem?_eq_some_iff.mp h).1
    obtain ⟨ow, q⟩ := fo k x _ h1 (List.getElem?_eq_getElem (l3 ▸ lt))
    refine ⟨recAt p k, _, ow, q.mem, ?_, List.getElem?_eq_getElem (l3 ▸ lt), q.low, q.bind⟩
    rw [q.name]
    exact c1 _ (zip_mem h1 h)
  · have e1 := List.getElem?_eq_some_iff.mp h
    have e2 := List.getElem?_eq_some_iff.mp h'
    have := c6 c (List.mem_range.mpr e1.1) c' (List.mem_range.mpr e2.1)
    rw [List.getD_eq_getElem?_getD, List.getD_eq_getElem?_getD, show ca[c]? = some C from h, show ca[c']? = some C' from h'] at this
    exact this
  · obtain ⟨x, h1, h2⟩ := zip_get l2.symm h
    have mx : x ∈ cn := List.mem_of_getElem? h1
    unfold checkO at co
    obtain ⟨o, ho, q⟩ := List.any_eq_true.mp (List.all_eq_true.mp co x mx)
    simp only [Bool.and_eq_true, beq_iff_eq] at q
    obtain ⟨⟨q1, q2⟩, q3⟩ := q
    obtain ⟨C', w, _⟩ := T.own o ho
    have e1 := w.bound
    have e2 := mg_of KX T.g (c2 _ (zip_mem h1 h))
    rw [q1] at e1
    have e3 : C' = C := by
      have := e1.symm.trans e2
      cases this; rfl
    subst e3
    rw [q2, q3] at w
    exact ⟨_, w.own⟩

theorem well_ints {P : Params} {h : Heap} {hid : List Addr} : ∀ {sc : List Int} {vs : List Value}, WellAll P h vs (ofPys (sc.map .int)) → RdAll hid h vs (ofInts sc) := by
  intro sc
  induction sc with
  | nil => intro vs x; cases x; exact .nil _ _
  | cons i sc ih =>
    intro vs x
    cases x with
    | cons a b =>
      cases a with
      | int _ t => exact .cons (Rd.int _ _ i t) (ih b)
theorem law_ends {G : Gl} (O : G.Ok) {s₁ : Shared} (hB : G.B = s₁.heap) {P : Params} {fa l : Addr} {f : Nat} {sc : List Int} (hf : G.fa[f]? = some fa) (W : Well P s₁.heap (.ref l) (ofPy (.list (sc.map .int)))) (hg : s₁.gens = #[])
    (w : wpCall G.tab 20 false f [.d (.list (ofInts sc))] (fun u => u = .d (.bool true)) (fun _ => False)) {c : ClaimW} {cl : Str → Option Addr} {mean : ExcName → Option Value} {args : List WData} (hn : ∀ cls, c.raises args cls = false) (hp : c.post args (.bool true) args = true) :
    codeAny (model G.prog G.w) callerA (.call (.ref fa) ⟨[.ref l], []⟩) (GoodWG c cl mean args s₁) s₁ := by
  have C : CSit G 20 false callerA s₁.heap [] [] [] := ⟨⟨rfl, rfl, trivial, fun b o e => by rw [← hB]; exact e⟩, by decide, by decide, .inl ⟨rfl, rfl⟩, (fun b hb => by cases hb), (fun b hb => by cases hb)⟩
  have r : Rd [] s₁.heap (.ref l) (.list (ofInts sc)) := by
    cases W with
    | list e r => exact Rd.list (fun q => by cases q) e (well_ints r)
  refine codeAny_mono (sc_step O (sc_all O 19) false callerA s₁ [] [] [] f fa [.ref l] [.d (.list (ofInts sc))] _ _ (fun v s' => GoodWG c cl mean args s₁ (.ok (.ret v)) s') (fun e s' => GoodWG c cl mean args s₁ (.error e) s') hf C ⟨r, trivial⟩ (fun u hu => by rw [List.mem_singleton.mp hu]; rfl) w (fun v s' u r x m k => ?_) (fun e s' c r m k => k.elim)) fun r s' h => ?_
  · subst k
    rw [Rd.bool_inv r]
    exact GoodW.toG ⟨.inl ⟨.bool true, .bool true, [], rfl, hn, .bool true, hp, unshared_nil⟩, fun b o e => (x b o e).1 (fun q => by cases q), m.2, m.1.trans hg⟩
  · split at h
    · exact h
    · exact h.elim
    · exact h
end TC

namespace TC
open PySem

/-! Plain laws of the predicate transformers. -/

theorem idxD_nat {xs : List PyData} {k : Nat} (h : k < lim) : idxD xs k = xs[k]? := by
  unfold idxD; rw [if_pos ⟨Int.natCast_nonneg k, Int.ofNat_lt.mpr h⟩]; rfl
theorem forW_idx {body : V → Rho → (Flow → Rho → Prop) → Prop} {K : Flow → Rho → Prop} (xs : List V) (I : Nat → Rho → Prop) (h0 : ∀ ρ, I xs.length ρ → K .nxt ρ)
    (hs : ∀ i (hi : i < xs.length) ρ (k : Flow → Rho → Prop), I i ρ → (∀ ρ', I (i + 1) ρ' → k .nxt ρ') → (∀ v ρ', K (.ret v) ρ' → k (.ret v) ρ') → body xs[i] ρ k) :
    ∀ ρ, I 0 ρ → forW body K xs ρ := by
  have key : ∀ m i ρ, xs.length - i = m → i ≤ xs.length → I i ρ → forW body K (xs.drop i) ρ := by
    intro m
    induction m with
    | zero =>
      intro i ρ e le hi
      have : i = xs.length := by omega
      subst this
      rw [List.drop_length]
      exact h0 ρ hi
    | succ m ih =>
      intro i ρ e le hi
      have lt : i < xs.length := by omega
      rw [List.drop_eq_getElem_cons lt]
      exact hs i lt ρ _ hi (fun ρ' h' => ih (i + 1) ρ' (by omega) (by omega) h') fun v ρ' h' => h'
  intro ρ h
  exact key xs.length 0 ρ (by omega) (by omega) h

theorem compW_map {step : Rho → (Option PyData → Prop) → Prop} {ρ : Rho} {K : V → Prop} (g : V → PyData) : ∀ (xs : List V) (acc : List PyData), (∀ x ∈ xs, ∀ k : Option PyData → Prop, k (some (g x)) → step (ρ ++ [some x]) k) →
    (acc ++ xs.map g).length < lim → K (.own (.list (acc ++ xs.map g))) → compW step none ρ K xs acc
  | [], acc, _, h1, h2 => by simp only [List.map_nil, List.append_nil] at h1 h2; exact ⟨h1, h2⟩
  | x :: xs, acc, h, h1, h2 => by
    refine h x (.head _) _ (compW_map g xs _ (fun y hy => h y (.tail _ hy)) ?_ ?_)
    · simpa [List.append_assoc] using h1
    · simpa [List.append_assoc] using h2
theorem compW_filter {step : Rho → (Option PyData → Prop) → Prop} {ρ : Rho} {K : V → Prop} (g : V → Option PyData) : ∀ (xs : List V) (acc : List PyData), (∀ x ∈ xs, ∀ k : Option PyData → Prop, k (g x) → step (ρ ++ [some x]) k) →
    (acc ++ xs.filterMap g).length < lim → K (.own (.list (acc ++ xs.filterMap g))) → compW step none ρ K xs acc
  | [], acc, _, h1, h2 => by simp only [List.filterMap_nil, List.append_nil] at h1 h2; exact ⟨h1, h2⟩
  | x :: xs, acc, h, h1, h2 => by
    refine h x (.head _) _ (compW_filter g xs _ (fun y hy => h y (.tail _ hy)) ?_ ?_)
    · cases e : g x with
      | none => simpa [e] using h1
      | some y => simpa [e, List.append_assoc] using h1
    · cases e : g x with
      | none => simpa [e] using h2
      | some y => simpa [e, List.append_assoc] using h2

theorem ofInts_ints : ∀ l : List Int, intsOf (ofInts l) = some l
  | [] => rfl
  | a :: l => by show (intsOf (ofInts l)).map (a :: ·) = _; rw [ofInts_ints l]; rfl
theorem length_ofInts (l : List Int) : (ofInts l).length = l.length := by unfold ofInts; simp
theorem getElem?_ofInts (l : List Int) (i : Nat) : (ofInts l)[i]? = l[i]?.map .int := by unfold ofInts; simp
theorem flats_ofInts : ∀ l : List Int, flats (ofInts l) = true
  | [] => rfl
  | a :: l => by show (true && flats (ofInts l)) = true; rw [flats_ofInts l]; rfl
theorem ofInts_append (a b : List Int) : ofInts a ++ ofInts b = ofInts (a ++ b) := by unfold ofInts; simp
theorem ofInts_drop (a : List Int) (n : Nat) : (ofInts a).drop n = ofInts (a.drop n) := by unfold ofInts; simp
theorem ofInts_take (a : List Int) (n : Nat) : (ofInts a).take n = ofInts (a.take n) := by unfold ofInts; simp
theorem ofInts_set (a : List Int) (n : Nat) (v : Int) : (ofInts a).set n (.int v) = ofInts (a.set n v) := by unfold ofInts; simp [List.map_set]
theorem rngL_length (n : Int) : (rangeL 0 n).length = n.toNat := by unfold rangeL; simp
theorem rngL_get {n : Int} {i : Nat} (h : i < (rangeL 0 n).length) : (rangeL 0 n)[i] = i := by unfold rangeL; simp
theorem fmod_nonneg' {a b : Int} (h : 0 < b) : 0 ≤ a.fmod b := Int.fmod_nonneg_of_pos a h
theorem fmod_lt' {a b : Int} (h : 0 < b) : a.fmod b < b := Int.fmod_lt_of_pos a h

theorem idxD_pos {xs : List PyData} {i : Int} (h : 0 ≤ i) (h2 : i < 1000) : idxD xs i = xs[i.toNat]? := by
  unfold idxD; rw [if_pos ⟨h, by rw [lim_eq]; omega⟩]
noncomputable def ofPairs (ts : List (Nat × Nat)) : List PyData := ts.map fun p => .tuple [.int p.1, .int p.2]
theorem ofPairs_append (a b : List (Nat × Nat)) : ofPairs a ++ ofPairs b = ofPairs (a ++ b) := by unfold ofPairs; simp
theorem ofPairs_drop (a : List (Nat × Nat)) (n : Nat) : (ofPairs a).drop n = ofPairs (a.drop n) := by unfold ofPairs; simp
theorem ofPairs_take (a : List (Nat × Nat)) (n : Nat) : (ofPairs a).take n = ofPairs (a.take n) := by unfold ofPairs; simp
theorem length_ofPairs (l : List (Nat × Nat)) : (ofPairs l).length = l.length := by unfold ofPairs; simp
theorem flats_ofPairs : ∀ l : List (Nat × Nat), flats (ofPairs l) = true
  | [] => rfl
  | a :: l => by show (true && flats (ofPairs l)) = true; rw [flats_ofPairs l]; rfl
/-- all pairs of points, in the order of the law -/
noncomputable def pairsTo (n : Nat) : List (Nat × Nat) := (List.range n).flatMap fun o => (List.range o).map fun i => (i, o)
theorem pairsTo_succ (n : Nat) : pairsTo (n + 1) = pairsTo n ++ (List.range n).map fun i => (i, n) := by
  unfold pairsTo; rw [List.range_succ, List.flatMap_append]; simp
theorem pairsTo_length : ∀ n, (pairsTo n).length ≤ n * n
  | 0 => by simp [pairsTo]
  | n + 1 => by
    have := pairsTo_length n
    rw [pairsTo_succ, List.length_append, List.length_map, List.length_range, Nat.add_mul, Nat.mul_add]
    omega
noncomputable def WebOk (sz : Nat) (ts : List (Nat × Nat)) : Prop := ∃ t0 k, List.Sublist t0 (pairsTo sz) ∧ ts = t0.drop k ++ t0.take k
theorem r_got {α : Type} (v : α) (K : α → Prop) : got (some v) K = K v := rfl
theorem r_rd_d (x : PyData) : rd (.d x) = some x := rfl
theorem r_rd_own (x : PyData) : rd (.own x) = some x := rfl
theorem r_rd_brw (x : PyData) : rd (.brw x) = some x := rfl
theorem r_rd_ot (l : List (Bool × PyData)) : rd (.ot l) = some (.tuple (l.map (·.2))) := rfl
theorem r_nm_d (x : PyData) : nmV (.d x) = .d x := rfl
theorem r_nm_own (x : PyData) : nmV (.own x) = .brw x := rfl
theorem r_nm_brw (x : PyData) : nmV (.brw x) = low x := rfl
theorem r_nm_exc (c : Nat) : nmV (.exc c) = .exc c := rfl
theorem r_nm_ot (l : List (Bool × PyData)) : nmV (.ot l) = .brw (.tuple (l.map (·.2))) := rfl
theorem r_arg_d (x : PyData) : argV (.d x) = .d x := rfl
theorem r_arg_own (x : PyData) : argV (.own x) = .d x := rfl
theorem r_arg_brw (x : PyData) : argV (.brw x) = .brw x := rfl
theorem r_arg_exc (c : Nat) : argV (.exc c) = .exc c := rfl
theorem r_arg_ot (l : List (Bool × PyData)) : argV (.ot l) = .d (.tuple (l.map (·.2))) := rfl
theorem r_keep_d (o : Bool) (x : PyData) : keepV o (.d x) = some (.d x) := rfl
theorem r_keep_ownt (x : PyData) : keepV true (.own x) = some (.own x) := rfl
theorem r_keep_ownf (x : PyData) : keepV false (.own x) = some (.d x) := rfl
theorem r_keep_ott (l : List (Bool × PyData)) : keepV true (.ot l) = some (.ot l) := rfl
theorem r_keep_otf (l : List (Bool × PyData)) : keepV false (.ot l) = some (.d (.tuple (l.map (·.2)))) := rfl
theorem r_kp_d (x : PyData) : kp (.d x) = some x := rfl
theorem r_kp_own (x : PyData) : kp (.own x) = some x := rfl
theorem r_kp_ot (l : List (Bool × PyData)) : kp (.ot l) = some (.tuple (l.map (·.2))) := rfl
theorem r_ret_d (x : PyData) : retV (.d x) = some (.d x) := rfl
theorem r_ret_own (x : PyData) : retV (.own x) = some (.own x) := rfl
theorem r_ret_ot (l : List (Bool × PyData)) : retV (.ot l) = some (.ot l) := rfl
theorem r_ifB (c : Bool) (a b : Prop) : ifB (.d (.bool c)) a b = cond c a b := rfl
theorem r_add (a b : Int) : Op.ev .add (.d (.int a)) (.d (.int b)) = some (.d (.int (a + b))) := rfl
theorem r_sub (a b : Int) : Op.ev .sub (.d (.int a)) (.d (.int b)) = some (.d (.int (a - b))) := rfl
theorem r_lt (a b : Int) : Op.ev .lt (.d (.int a)) (.d (.int b)) = some (.d (.bool (decide (a < b)))) := rfl
theorem r_le (a b : Int) : Op.ev .le (.d (.int a)) (.d (.int b)) = some (.d (.bool (decide (a ≤ b)))) := rfl
theorem r_gt (a b : Int) : Op.ev .gt (.d (.int a)) (.d (.int b)) = some (.d (.bool (decide (b < a)))) := rfl
theorem r_ge (a b : Int) : Op.ev .ge (.d (.int a)) (.d (.int b)) = some (.d (.bool (decide (b ≤ a)))) := rfl
theorem r_mul {a b : Int} (h : IntMulOk a b) : Op.ev .mul (.d (.int a)) (.d (.int b)) = some (.d (.int (a * b))) := by
  show (Op.num .mul a b).map V.d = _
  unfold Op.num; rw [if_pos h]; rfl
theorem r_mod {a b : Int} (h : b ≠ 0) : Op.ev .mod (.d (.int a)) (.d (.int b)) = some (.d (.int (a.fmod b))) := by
  show (Op.num .mod a b).map V.d = _
  unfold Op.num; rw [if_neg h]; rfl
theorem r_fdiv {a b : Int} (h : b ≠ 0) (h2 : b.natAbs < 1073741824) : Op.ev .fdiv (.d (.int a)) (.d (.int b)) = some (.d (.int (a.fdiv b))) := by
  show (Op.num .fdiv a b).map V.d = _
  simp only [Op.num]; rw [if_pos ⟨h, h2⟩]; rfl
theorem r_eq (a b : Int) : Op.ev .eq (.d (.int a)) (.d (.int b)) = some (.d (.bool (decide (a = b)))) := by
  show (eqD (.int a) (.int b)).map (fun b => V.d (.bool b)) = _
  rw [eqD_int]; rfl
theorem r_ne (a b : Int) : Op.ev .ne (.d (.int a)) (.d (.int b)) = some (.d (.bool (!decide (a = b)))) := by
  show (eqD (.int a) (.int b)).map (fun b => V.d (.bool !b)) = _
  rw [eqD_int]; rfl
theorem r_len_d {xs : List PyData} (h : xs.length < lim) : F1.ev .len (.d (.list xs)) = some (.d (.int xs.length)) := by
  show (if xs.length < lim then some (V.d (.int xs.length)) else none) = _
  rw [if_pos h]
theorem r_len_own {xs : List PyData} (h : xs.length < lim) : F1.ev .len (.own (.list xs)) = some (.d (.int xs.length)) := by
  show (if xs.length < lim then some (V.d (.int xs.length)) else none) = _
  rw [if_pos h]
theorem r_len_brw {xs : List PyData} (h : xs.length < lim) : F1.ev .len (.brw (.list xs)) = some (.d (.int xs.length)) := by
  show (if xs.length < lim then some (V.d (.int xs.length)) else none) = _
  rw [if_pos h]
theorem r_not (b : Bool) : F1.ev .not (.d (.bool b)) = some (.d (.bool (!b))) := rfl
theorem r_int (b : Bool) : F1.ev .int (.d (.bool b)) = some (.d (.int (if b then 1 else 0))) := rfl
theorem r_isi_int_d (x : PyData) : F1.ev (.isi .int) (.d x) = some (.d (.bool (Ty.has .int x))) := rfl
theorem r_isi_bool_d (x : PyData) : F1.ev (.isi .bool) (.d x) = some (.d (.bool (Ty.has .bool x))) := rfl
theorem r_isi_list_d (x : PyData) : F1.ev (.isi .list) (.d x) = some (.d (.bool (Ty.has .list x))) := rfl
theorem r_isi_tuple_d (x : PyData) : F1.ev (.isi .tuple) (.d x) = some (.d (.bool (Ty.has .tuple x))) := rfl
theorem r_isi_int_own (x : PyData) : F1.ev (.isi .int) (.own x) = some (.d (.bool (Ty.has .int x))) := rfl
theorem r_isi_bool_own (x : PyData) : F1.ev (.isi .bool) (.own x) = some (.d (.bool (Ty.has .bool x))) := rfl
theorem r_isi_list_own (x : PyData) : F1.ev (.isi .list) (.own x) = some (.d (.bool (Ty.has .list x))) := rfl
theorem r_isi_tuple_own (x : PyData) : F1.ev (.isi .tuple) (.own x) = some (.d (.bool (Ty.has .tuple x))) := rfl
theorem r_isi_int_brw (x : PyData) : F1.ev (.isi .int) (.brw x) = some (.d (.bool (Ty.has .int x))) := rfl
theorem r_isi_bool_brw (x : PyData) : F1.ev (.isi .bool) (.brw x) = some (.d (.bool (Ty.has .bool x))) := rfl
theorem r_isi_list_brw (x : PyData) : F1.ev (.isi .list) (.brw x) = some (.d (.bool (Ty.has .list x))) := rfl
theorem r_isi_tuple_brw (x : PyData) : F1.ev (.isi .tuple) (.brw x) = some (.d (.bool (Ty.has .tuple x))) := rfl
theorem r_isi_exc (c k : Nat) : F1.ev (.isi (.exc k)) (.exc c) = some (.d (.bool (k == 0 || c == k))) := rfl
theorem r_isi_val (c : Nat) : F1.ev (.isi .valueError) (.exc c) = some (.d (.bool true)) := rfl
theorem r_isNone_d (x : PyData) : F1.ev .isNone (.d x) = some (.d (.bool (isNon x))) := rfl
theorem r_isNone_own (x : PyData) : F1.ev .isNone (.own x) = some (.d (.bool (isNon x))) := rfl
theorem r_max2 (a b : Int) : F2.ev .max (.d (.int a)) (.d (.int b)) = some (.d (.int (max a b))) := rfl
theorem r_min2 (a b : Int) : F2.ev .min (.d (.int a)) (.d (.int b)) = some (.d (.int (min a b))) := rfl
theorem r_ls_d (xs : List PyData) : lsV (.d (.list xs)) = some xs := rfl
theorem r_ls_own (xs : List PyData) : lsV (.own (.list xs)) = some xs := rfl
theorem r_ls_brw {xs : List PyData} (h : flats xs = true) : lsV (.brw (.list xs)) = some xs := by
  show (if flats xs = true then some xs else none) = _
  rw [if_pos h]
theorem r_idx_dl {xs : List PyData} {i : Int} (h : 0 ≤ i) (h2 : i < 1000) : idxV (.d (.list xs)) i = (xs[i.toNat]?).map .d := by
  show ((some xs).bind (idxD · i)).map V.d = _
  rw [Option.bind_some, idxD_pos h h2]
theorem r_idx_ownl {xs : List PyData} {i : Int} (h : 0 ≤ i) (h2 : i < 1000) : idxV (.own (.list xs)) i = (xs[i.toNat]?).map .d := by
  show ((some xs).bind (idxD · i)).map V.d = _
  rw [Option.bind_some, idxD_pos h h2]
theorem r_idx_brwl {xs : List PyData} {i : Int} (h : 0 ≤ i) (h2 : i < 1000) : idxV (.brw (.list xs)) i = (xs[i.toNat]?).map low := by
  show ((some xs).bind (idxD · i)).map low = _
  rw [Option.bind_some, idxD_pos h h2]
theorem r_low_int (a : Int) : low (.int a) = .d (.int a) := rfl
theorem r_from {v : V} {xs : List PyData} {i : Int} (e : lsV v = some xs) (h : 0 ≤ i) (h2 : i < lim) (h3 : xs.length < lim) : fromV v i = some (.own (.list (xs.drop i.toNat))) := by
  show ((lsV v).bind fun xs => if 0 ≤ i ∧ i < lim ∧ xs.length < lim then some (V.own (.list (xs.drop i.toNat))) else none) = _
  rw [e]; exact if_pos ⟨h, h2, h3⟩
theorem r_to {v : V} {xs : List PyData} {i : Int} (e : lsV v = some xs) (h : 0 ≤ i) (h2 : i < lim) (h3 : xs.length < lim) : toV v i = some (.own (.list (xs.take i.toNat))) := by
  show ((lsV v).bind fun xs => if 0 ≤ i ∧ i < lim ∧ xs.length < lim then some (V.own (.list (xs.take i.toNat))) else none) = _
  rw [e]; exact if_pos ⟨h, h2, h3⟩
theorem r_addl {v w : V} {xs ys : List PyData} (hv : rd v = some (.list xs)) (hw : rd w = some (.list ys)) (ev : lsV v = some xs) (ew : lsV w = some ys) (h : xs.length + ys.length < lim) : Op.ev .add v w = some (.own (.list (xs ++ ys))) := by
  unfold Op.ev; rw [hv, hw]
  show ((lsV v).bind fun xs => (lsV w).bind fun ys => if xs.length + ys.length < lim then some (V.own (.list (xs ++ ys))) else none) = _
  rw [ev, ew]; exact if_pos h
theorem r_mull {v : V} {xs : List PyData} {k : Int} (hv : rd v = some (.list xs)) (ev : lsV v = some xs) (h : 0 ≤ k) (h2 : k < lim) (h3 : xs.length * k.toNat < lim) : Op.ev .mul v (.d (.int k)) = some (.own (.list (List.replicate k.toNat xs).flatten)) := by
  unfold Op.ev; rw [hv]
  show ((lsV v).bind fun xs => if 0 ≤ k ∧ k < lim ∧ xs.length * k.toNat < lim then some (V.own (.list (List.replicate k.toNat xs).flatten)) else none) = _
  rw [ev]; exact if_pos ⟨h, h2, h3⟩
theorem r_pf_own (x : PyData) : partF (.own x) = some (true, x) := rfl
theorem r_pf_d (x : PyData) : partF (.d x) = some (false, x) := rfl
theorem r_it_d (xs : List PyData) : itemsV (.d (.list xs)) = some (xs.map .d) := rfl
theorem r_it_own (xs : List PyData) : itemsV (.own (.list xs)) = some (xs.map .d) := rfl
theorem r_it_dt (xs : List PyData) : itemsV (.d (.tuple xs)) = some (xs.map .d) := rfl
theorem r_it_brw (xs : List PyData) : itemsV (.brw (.list xs)) = some (xs.map low) := rfl
theorem r_pv_ot {l : List (Bool × PyData)} {n : Nat} (h : l.length = n) : partsV (.ot l) n = some (l.map fun p => if p.1 then .own p.2 else .d p.2) := if_pos h
theorem r_pv_d {xs : List PyData} {n : Nat} (h : xs.length = n) : partsV (.d (.tuple xs)) n = some (xs.map .d) := if_pos h
theorem r_geti {l : List Int} {i : Nat} (h : i < (ofInts l).length) : (ofInts l)[i] = .int (l[i]'(length_ofInts l ▸ h)) := by
  have e := getElem?_ofInts l i
  rw [List.getElem?_eq_getElem h, List.getElem?_eq_getElem (length_ofInts l ▸ h)] at e
  exact Option.some.inj e
theorem r_add_d_d {xs ys : List PyData} (h : xs.length + ys.length < lim) : Op.ev .add (.d (.list xs)) (.d (.list ys)) = some (.own (.list (xs ++ ys))) := r_addl rfl rfl rfl rfl h
theorem r_add_d_own {xs ys : List PyData} (h : xs.length + ys.length < lim) : Op.ev .add (.d (.list xs)) (.own (.list ys)) = some (.own (.list (xs ++ ys))) := r_addl rfl rfl rfl rfl h
theorem r_mul_d {xs : List PyData} {k : Int} (h : 0 ≤ k) (h2 : k < lim) (h3 : xs.length * k.toNat < lim) : Op.ev .mul (.d (.list xs)) (.d (.int k)) = some (.own (.list (List.replicate k.toNat xs).flatten)) := r_mull rfl rfl h h2 h3
theorem r_add_own_d {xs ys : List PyData} (h : xs.length + ys.length < lim) : Op.ev .add (.own (.list xs)) (.d (.list ys)) = some (.own (.list (xs ++ ys))) := r_addl rfl rfl rfl rfl h
theorem r_add_own_own {xs ys : List PyData} (h : xs.length + ys.length < lim) : Op.ev .add (.own (.list xs)) (.own (.list ys)) = some (.own (.list (xs ++ ys))) := r_addl rfl rfl rfl rfl h
theorem r_mul_own {xs : List PyData} {k : Int} (h : 0 ≤ k) (h2 : k < lim) (h3 : xs.length * k.toNat < lim) : Op.ev .mul (.own (.list xs)) (.d (.int k)) = some (.own (.list (List.replicate k.toNat xs).flatten)) := r_mull rfl rfl h h2 h3
theorem lim_lt {k : Nat} (h : k < 1000) : k < lim := by rw [lim_eq]; omega
theorem lim_lti {k : Int} (h : k < 1000) : k < (lim : Int) := by rw [lim_eq]; omega

/-- a call of the text's def -/
theorem wpCall_in {tab : List Fn} {n f : Nat} {hm : Bool} {vs : List V} {K : V → Prop} {X : Nat → Prop} {fn : Fn} (h : tab[f]? = some fn) (l1 : vs.length = fn.np) (l2 : fn.np ≤ fn.ns)
    (w : wpSs (wpCall tab n) hm fn.body (vs.map some ++ List.replicate (fn.ns - fn.np) none) (fun fl _ => match fl with | .nxt => K (.d .none) | .ret v => K v) (fun c _ => X c)) : wpCall tab (n + 1) hm f vs K X := by
  show got (tab[f]?) _
  rw [h]; exact ⟨l1, l2, w⟩
theorem ifB_by {p : Prop} [d : Decidable p] {a b : Prop} (h1 : p → a) (h2 : ¬ p → b) : cond (decide p) a b := by
  by_cases h : p
  · rw [decide_eq_true h]; exact h1 h
  · rw [decide_eq_false h]; exact h2 h
theorem ifB_yes {p : Prop} [d : Decidable p] {a b : Prop} (h : p) (h1 : a) : cond (decide p) a b := by rw [decide_eq_true h]; exact h1
theorem ifB_no {p : Prop} [d : Decidable p] {a b : Prop} (h : ¬ p) (h1 : b) : cond (decide p) a b := by rw [decide_eq_false h]; exact h1
theorem d_map0 {α β : Type} (f : α → β) : List.map f [] = [] := rfl
theorem d_map1 {α β : Type} (f : α → β) (a : α) (l : List α) : List.map f (a :: l) = f a :: List.map f l := rfl
theorem d_app0 {α : Type} (l : List α) : [] ++ l = l := rfl
theorem d_app1 {α : Type} (a : α) (k l : List α) : (a :: k) ++ l = a :: (k ++ l) := rfl
theorem d_get0 {α : Type} (a : α) (l : List α) : (a :: l)[0]? = some a := rfl
theorem d_get1 {α : Type} (a : α) (l : List α) (n : Nat) : (a :: l)[n + 1]? = l[n]? := rfl
theorem d_set0 {α : Type} (a b : α) (l : List α) : (a :: l).set 0 b = b :: l := rfl
theorem d_set1 {α : Type} (a b : α) (l : List α) (n : Nat) : (a :: l).set (n + 1) b = a :: l.set n b := rfl
theorem d_rep0 {α : Type} (a : α) : List.replicate 0 a = [] := rfl
theorem d_rep1 {α : Type} (a : α) (n : Nat) : List.replicate (n + 1) a = a :: List.replicate n a := rfl
theorem d_len0 {α : Type} : ([] : List α).length = 0 := rfl
theorem d_len1 {α : Type} (a : α) (l : List α) : (a :: l).length = l.length + 1 := rfl
theorem d_omap {α β : Type} (f : α → β) (a : α) : Option.map f (some a) = some (f a) := rfl
theorem d_obind {α β : Type} (f : α → Option β) (a : α) : Option.bind (some a) f = f a := rfl
theorem d_ct (a b : Prop) : cond true a b = a := rfl
theorem d_cf (a b : Prop) : cond false a b = b := rfl
theorem d_q1 {f : F1} (hm : Bool) (P : Prop) (h : f.quiet = true := by rfl) : qW f hm P = cond (!f.quiet && hm) False P := rfl
theorem d_nt : (!true) = false := rfl
theorem d_nf : (!false) = true := rfl
theorem d_fand (b : Bool) : (false && b) = false := rfl
theorem d_tand (b : Bool) : (true && b) = b := rfl
theorem d_ip (a b : Int) : intPair (.d (.int a)) (.d (.int b)) = some (a, b) := rfl
theorem d_op {o : Op} {a b : Int} {K : V → Prop} : opW o (.d (.int a)) (.d (.int b)) K = numW o a b K := rfl
theorem opW_other {o : Op} {v w : V} {K : V → Prop} (e : intPair v w = none) (h : got (o.ev v w) K) : opW o v w K := by
  unfold opW; rw [e]; exact h
theorem r_pv2 (x y : PyData) : partsV (.ot [(false, x), (true, y)]) 2 = some [.d x, .own y] := rfl
theorem opW_add_do {xs ys : List PyData} {K : V → Prop} (h : xs.length + ys.length < lim) (k : K (.own (.list (xs ++ ys)))) : opW .add (.d (.list xs)) (.own (.list ys)) K := opW_other rfl (by rw [r_add_d_own h]; exact k)
theorem opW_mul_d {xs : List PyData} {j : Int} {K : V → Prop} (h : 0 ≤ j) (h2 : j < lim) (h3 : xs.length * j.toNat < lim) (k : K (.own (.list (List.replicate j.toNat xs).flatten))) : opW .mul (.d (.list xs)) (.d (.int j)) K := opW_other rfl (by rw [r_mul_d h h2 h3]; exact k)
end TC

namespace TC
open PySem
noncomputable def b_is_among : Ss := 
  (.cons (.ret (.and (.cons (.f1 (.isi .int) (.nm 0)) (.cons (.f1 .not (.f1 (.isi .bool) (.nm 0))) (.cons (.cmp (.nm 1) (.cons .le (.nm 0) (.cons .le (.nm 2) .nil))) .nil))))) .nil)
noncomputable def f_is_among : Fn := ⟨3, 3, b_is_among⟩
noncomputable def b_need_counts_1 : Ss := 
  (.cons (.ite (.f1 .not (.call 0 (.cons (.nm 1) (.cons (.int (0)) (.cons (.int (20)) .nil))))) 
    (.cons (.rais 1) .nil) .nil) .nil)
noncomputable def b_need_counts : Ss := 
  (.cons (.ite (.or (.cons (.f1 .not (.f1 (.isi .list) (.nm 0))) (.cons (.f1 .not (.cmp (.int (1)) (.cons .le (.f1 .len (.nm 0)) (.cons .le (.int (10)) .nil)))) .nil))) 
    (.cons (.rais 1) .nil) .nil) 
  (.cons (.loop (.one 1) (.dat (.nm 0)) b_need_counts_1) .nil))
noncomputable def f_need_counts : Fn := ⟨1, 2, b_need_counts⟩
noncomputable def b_want_of : Ss := 
  (.cons (.asg false 2 (.f1 .sortedR (.nm 0))) 
  (.cons (.asg false 3 (.comp0 none (.dat (.sfrom (.nm 2) (.nm 1))) (.f2 .min (.nm 4) (.nm 1)))) 
  (.cons (.rett (.cons (.f1 .sum (.sto (.nm 2) (.nm 1))) (.cons (.op .add (.op .mul (.nm 1) (.op .sub (.nm 1) (.int (1)))) (.f1 .sum (.nm 3))) .nil))) .nil)))
noncomputable def f_want_of : Fn := ⟨2, 4, b_want_of⟩
noncomputable def b_wanted : Ss := 
  (.cons (.drop (.call 1 (.cons (.nm 0) .nil))) 
  (.cons (.ite (.f1 .not (.call 0 (.cons (.nm 1) (.cons (.int (0)) (.cons (.f1 .len (.nm 0)) .nil))))) 
    (.cons (.rais 2) .nil) .nil) 
  (.cons (.ret (.call 2 (.cons (.nm 0) (.cons (.nm 1) .nil)))) .nil)))
noncomputable def f_wanted : Fn := ⟨2, 2, b_wanted⟩
noncomputable def b__law_cell : Ss := 
  (.cons (.ite (.cmp (.nm 1) (.cons .lt (.f1 .len (.nm 0)) .nil)) 
    (.cons (.ret (.idx (.nm 0) (.nm 1))) .nil) .nil) 
  (.cons (.ret (.int (0))) .nil))
noncomputable def f__law_cell : Fn := ⟨2, 2, b__law_cell⟩
noncomputable def b__law_mixed : Ss := 
  (.cons (.asg false 2 (.op .add (.op .add (.nm 0) (.op .mul (.int (7919)) (.nm 1))) (.int (13)))) 
  (.cons (.ret (.op .fdiv (.op .mod (.op .mul (.op .mod (.op .mul (.nm 2) (.nm 2)) (.int (1000000007))) (.int (48271))) (.int (998244353))) (.int (11)))) .nil))
noncomputable def f__law_mixed : Fn := ⟨2, 3, b__law_mixed⟩
noncomputable def b__law_whole : Ss := 
  (.cons (.ret (.and (.cons (.f1 (.isi .int) (.nm 0)) (.cons (.f1 .not (.f1 (.isi .bool) (.nm 0))) .nil)))) .nil)
noncomputable def f__law_whole : Fn := ⟨1, 1, b__law_whole⟩
noncomputable def b__law_web_1 : Ss := 
  (.cons (.asg false 8 (.call 5 (.cons (.call 4 (.cons (.nm 0) (.cons (.op .add (.op .add (.nm 1) (.int (1))) (.op .mod (.op .add (.nm 7) (.op .mul (.int (3)) (.nm 6))) (.int (6)))) .nil))) (.cons (.op .add (.op .add (.nm 7) (.op .mul (.int (11)) (.nm 6))) (.op .fdiv (.nm 3) (.int (64)))) .nil)))) 
  (.cons (.asg false 9 (.op .mod (.op .fdiv (.nm 3) (.int (10))) (.int (6)))) 
  (.cons (.ite (.or (.cons (.and (.cons (.cmp (.nm 9) (.cons .lt (.int (4)) .nil)) (.cons (.cmp (.op .mod (.nm 8) (.idx (.lst (.cons (.int (2)) (.cons (.int (3)) (.cons (.int (5)) (.cons (.int (4)) .nil))))) (.nm 9))) (.cons .eq (.int (0)) .nil)) .nil))) (.cons (.and (.cons (.cmp (.nm 9) (.cons .eq (.int (4)) .nil)) (.cons (.cmp (.op .mod (.nm 8) (.int (4))) (.cons .gt (.int (0)) .nil)) .nil))) .nil))) 
    (.cons (.app 5 (.tup (.cons (.nm 7) (.cons (.nm 6) .nil)))) .nil) 
    (.cons (.ite (.and (.cons (.cmp (.nm 9) (.cons .eq (.int (5)) .nil)) (.cons (.or (.cons (.cmp (.nm 6) (.cons .eq (.op .add (.nm 7) (.int (1))) .nil)) (.cons (.cmp (.op .mod (.nm 8) (.int (6))) (.cons .eq (.int (0)) .nil)) .nil))) .nil))) 
      (.cons (.app 5 (.tup (.cons (.nm 7) (.cons (.nm 6) .nil)))) .nil) .nil) .nil)) .nil)))
noncomputable def b__law_web_2 : Ss := 
  (.cons (.loop (.one 7) (.rng (.nm 6)) b__law_web_1) .nil)
noncomputable def b__law_web_3 : Ss := 
  (.cons (.asg false 10 (.op .mod (.op .fdiv (.nm 3) (.int (60))) (.op .add (.int (1)) (.f1 .len (.nm 5))))) 
  (.cons (.rett (.cons (.nm 4) (.cons (.op .add (.sfrom (.nm 5) (.nm 10)) (.sto (.nm 5) (.nm 10))) .nil))) .nil))
noncomputable def b__law_web : Ss := 
  (.cons (.asg false 3 (.call 4 (.cons (.nm 0) (.cons (.nm 1) .nil)))) 
  (.cons (.asg false 4 (.op .add (.int (1)) (.op .mod (.nm 3) (.nm 2)))) 
  (.cons (.asg true 5 (.lst .nil)) 
  (.cons (.loop (.one 6) (.rng (.nm 4)) b__law_web_2) b__law_web_3))))
noncomputable def f__law_web : Fn := ⟨3, 11, b__law_web⟩
noncomputable def b__law_counts : Ss := 
  (.cons (.ret (.comp0 none (.rng (.nm 0)) (.f1 .len (.comp1 none (.dat (.nm 1)) (.cmp (.nm 2) (.cons .isin (.nm 3) .nil)) (.int (1)))))) .nil)
noncomputable def f__law_counts : Fn := ⟨2, 2, b__law_counts⟩
noncomputable def b__law_drawn_1 : Ss := 
  (.cons (.asg false 9 (.op .mod (.op .fdiv (.nm 6) (.op .add (.int (4)) (.nm 8))) (.nm 3))) 
  (.cons (.set 5 (.nm 9) (.f2 .max (.int (0)) (.f2 .min (.int (20)) (.op .add (.idx (.nm 5) (.nm 9)) (.idx (.lst (.cons (.int (1)) (.cons (.int (-1)) (.cons (.int (2)) (.cons (.int (1)) .nil))))) (.op .mod (.op .fdiv (.nm 6) (.op .add (.int (40)) (.nm 8))) (.int (4)))))))) .nil))
noncomputable def b__law_drawn_2 : Ss := 
  (.cons (.retm 5) .nil)
noncomputable def b__law_drawn : Ss := 
  (.cons (.unp [(false, 3), (false, 4)] (.call 7 (.cons (.nm 0) (.cons (.nm 1) (.cons (.nm 2) .nil))))) 
  (.cons (.asg true 5 (.call 8 (.cons (.nm 3) (.cons (.nm 4) .nil)))) 
  (.cons (.asg false 6 (.call 4 (.cons (.nm 0) (.cons (.op .add (.nm 1) (.int (7))) .nil)))) 
  (.cons (.ite (.cmp (.op .mod (.nm 6) (.int (4))) (.cons .eq (.int (0)) .nil)) 
    (.cons (.retm 5) .nil) .nil) 
  (.cons (.ite (.cmp (.op .mod (.nm 6) (.int (4))) (.cons .eq (.int (3)) .nil)) 
    (.cons (.asg false 7 (.idx (.lst (.cons (.nm 3) (.cons (.op .add (.nm 3) (.int (2))) (.cons (.int (21)) (.cons (.int (3)) .nil))))) (.op .mod (.op .fdiv (.nm 6) (.int (4))) (.int (4))))) 
    (.cons (.ret (.comp0 none (.rng (.nm 3)) (.op .mod (.call 5 (.cons (.nm 6) (.cons (.nm 10) .nil))) (.nm 7)))) .nil)) .nil) 
  (.cons (.loop (.one 8) (.rng (.op .mod (.nm 6) (.int (4)))) b__law_drawn_1) b__law_drawn_2))))))
noncomputable def f__law_drawn : Fn := ⟨3, 10, b__law_drawn⟩
noncomputable def b__law_wanted_1 : Ss := 
  (.cons (.asg false 5 (.f1 .max (.nm 2))) 
  (.cons (.asg false 3 (.op .add (.nm 3) (.nm 5))) 
  (.cons (.rem 2 (.nm 5)) .nil)))
noncomputable def b__law_wanted_2 : Ss := 
  (.cons (.asg false 6 (.op .add (.nm 6) (.idx (.lst (.cons (.nm 1) (.cons (.nm 7) .nil))) (.f1 .int (.cmp (.nm 7) (.cons .lt (.nm 1) .nil)))))) .nil)
noncomputable def b__law_wanted_3 : Ss := 
  (.cons (.rett (.cons (.nm 3) (.cons (.nm 6) .nil))) .nil)
noncomputable def b__law_wanted_4 : Ss := 
  (.cons (.asg false 6 (.op .mul (.nm 1) (.op .sub (.nm 1) (.int (1))))) 
  (.cons (.loop (.one 7) (.dat (.nm 2)) b__law_wanted_2) b__law_wanted_3))
noncomputable def b__law_wanted : Ss := 
  (.cons (.asg true 2 (.f1 .list (.nm 0))) 
  (.cons (.asg false 3 (.int (0))) 
  (.cons (.loop (.one 4) (.rng (.nm 1)) b__law_wanted_1) b__law_wanted_4)))
noncomputable def f__law_wanted : Fn := ⟨2, 8, b__law_wanted⟩
noncomputable def b__law_kind : Ss := 
  (.cons (.asg false 1 (.lst (.cons (.tup (.cons (.str "counts") (.cons (.f1 (.isi (.exc 1)) (.nm 0)) .nil))) (.cons (.tup (.cons (.str "many") (.cons (.f1 (.isi (.exc 2)) (.nm 0)) .nil))) .nil)))) 
  (.cons (.asg false 1 (.op .add (.nm 1) (.lst (.cons (.tup (.cons (.str "web") (.cons (.f1 (.isi (.exc 3)) (.nm 0)) .nil))) (.cons (.tup (.cons (.str "exchange") (.cons (.f1 (.isi (.exc 4)) (.nm 0)) .nil))) .nil))))) 
  (.cons (.asg false 1 (.op .add (.nm 1) (.lst (.cons (.tup (.cons (.str "unlike") (.cons (.f1 (.isi (.exc 5)) (.nm 0)) .nil))) (.cons (.tup (.cons (.str "none") (.cons (.f1 (.isi (.exc 6)) (.nm 0)) .nil))) .nil))))) 
  (.cons (.asg false 1 (.comp1 (some 2) (.dat (.nm 1)) (.nm 3) (.nm 2))) 
  (.cons (.ret (.op .mul (.nm 1) (.f1 .int (.and (.cons (.cmp (.f1 .len (.nm 1)) (.cons .eq (.int (1)) .nil)) (.cons (.f1 (.isi .valueError) (.nm 0)) .nil)))))) .nil)))))
noncomputable def f__law_kind : Fn := ⟨1, 2, b__law_kind⟩
noncomputable def b__law_no_counts : Ss := 
  (.cons (.asg false 2 (.op .mod (.op .fdiv (.nm 1) (.int (16))) (.f1 .len (.nm 0)))) 
  (.cons (.asg false 3 (.idx (.lst (.cons (.int (-1)) (.cons (.int (21)) (.cons (.bool true) (.cons .none (.cons (.str "1") (.cons (.lst (.cons (.int (1)) .nil)) (.cons (.op .add (.int (21)) (.op .mod (.op .fdiv (.nm 1) (.int (160))) (.int (100000000000000000000)))) (.cons (.bool false) (.cons (.tup (.cons (.int (1)) .nil)) (.cons .dic0 .nil))))))))))) (.op .mod (.op .mod (.nm 1) (.int (16))) (.int (10))))) 
  (.cons (.ite (.cmp (.op .mod (.nm 1) (.int (16))) (.cons .lt (.int (10)) .nil)) 
    (.cons (.ret (.op .add (.op .add (.sto (.nm 0) (.nm 2)) (.lst (.cons (.nm 3) .nil))) (.sfrom (.nm 0) (.op .add (.nm 2) (.int (1)))))) .nil) .nil) 
  (.cons (.ret (.idx (.lst (.cons (.lst .nil) (.cons (.op .mul (.nm 0) (.int (11))) (.cons (.f1 .tuple (.nm 0)) (.cons .none (.cons (.int (5)) (.cons (.str "11") .nil))))))) (.op .sub (.op .mod (.nm 1) (.int (16))) (.int (10))))) .nil))))
noncomputable def f__law_no_counts : Fn := ⟨2, 4, b__law_no_counts⟩
noncomputable def b__law_told : Ss := 
  (.cons (.tryx 
    (.cons (.ret (.call 3 (.cons (.nm 0) (.cons (.nm 1) .nil)))) .nil) 0 2 
    (.cons (.ret (.call 11 (.cons (.nm 2) .nil))) .nil)) .nil)
noncomputable def f__law_told : Fn := ⟨2, 3, b__law_told⟩
noncomputable def b__law_needed : Ss := 
  (.cons (.tryx 
    (.cons (.ret (.call 1 (.cons (.nm 0) .nil))) .nil) 0 1 
    (.cons (.ret (.call 11 (.cons (.nm 1) .nil))) .nil)) .nil)
noncomputable def f__law_needed : Fn := ⟨1, 2, b__law_needed⟩
noncomputable def b_law_1 : Ss := 
  (.cons (.asg false 4 (.call 13 (.cons (.nm 2) (.cons (.nm 3) .nil)))) 
  (.cons (.ite (.or (.cons (.f1 .not (.f1 (.isi .tuple) (.nm 4))) (.cons (.f1 .not (.f1 .all (.comp0 none (.dat (.nm 4)) (.call 6 (.cons (.nm 7) .nil))))) (.cons (.cmp (.nm 2) (.cons .ne (.nm 1) .nil)) .nil)))) 
    (.cons (.ret (.bool false)) .nil) .nil) 
  (.cons (.ite (.cmp (.nm 4) (.cons .ne (.call 10 (.cons (.nm 1) (.cons (.nm 3) .nil))) .nil)) 
    (.cons (.ret (.bool false)) .nil) .nil) .nil)))
noncomputable def b_law_2 : Ss := 
  (.cons (.asg false 5 (.call 5 (.cons (.call 4 (.cons (.nm 0) (.cons (.int (0)) .nil))) (.cons (.int (1)) .nil)))) 
  (.cons (.asg false 3 (.idx (.lst (.cons (.int (-1)) (.cons (.op .add (.f1 .len (.nm 1)) (.int (1))) (.cons (.bool true) (.cons .none (.cons (.str "1") (.cons (.lst (.cons (.int (1)) .nil)) (.cons (.op .add (.op .add (.f1 .len (.nm 1)) (.op .mod (.op .fdiv (.nm 5) (.int (64))) (.int (1000000000)))) (.int (1))) (.cons (.bool false) .nil))))))))) (.op .mod (.op .fdiv (.nm 5) (.int (8))) (.int (8))))) 
  (.cons (.asg false 6 (.call 12 (.cons (.nm 1) (.cons (.op .fdiv (.nm 5) (.int (64))) .nil)))) 
  (.cons (.ite (.or (.cons (.cmp (.call 13 (.cons (.nm 2) (.cons (.nm 3) .nil))) (.cons .ne (.lst (.cons (.str "many") .nil)) .nil)) (.cons (.cmp (.call 13 (.cons (.nm 6) (.cons (.nm 3) .nil))) (.cons .ne (.lst (.cons (.str "counts") .nil)) .nil)) .nil))) 
    (.cons (.ret (.bool false)) .nil) .nil) 
  (.cons (.ret (.and (.cons (.f1 .isNone (.call 14 (.cons (.nm 1) .nil))) (.cons (.cmp (.call 14 (.cons (.nm 6) .nil)) (.cons .eq (.lst (.cons (.str "counts") .nil)) .nil)) (.cons (.cmp (.nm 2) (.cons .eq (.nm 1) .nil)) .nil))))) .nil)))))
noncomputable def b_law : Ss := 
  (.cons (.asg false 1 (.call 9 (.cons (.nm 0) (.cons (.int (1)) (.cons (.int (10)) .nil))))) 
  (.cons (.asg false 2 (.f1 .list (.nm 1))) 
  (.cons (.loop (.one 3) (.rng (.op .add (.f1 .len (.nm 1)) (.int (1)))) b_law_1) b_law_2)))
noncomputable def f_law : Fn := ⟨1, 7, b_law⟩

noncomputable def tab01 : List Fn := [f_is_among, f_need_counts, f_want_of, f_wanted, f__law_cell, f__law_mixed, f__law_whole, f__law_web, f__law_counts, f__law_drawn, f__law_wanted, f__law_kind, f__law_no_counts, f__law_told, f__law_needed, f_law]
end TC

namespace TC
open PySem
section
variable {tab : List Fn} {n f : Nat} {hm : Bool} {K : V → Prop} {X : Nat → Prop}

noncomputable def amongB : PyData → Int → Int → Bool
  | .int i, a, b => decide (a ≤ i) && decide (i ≤ b)
  | _, _, _ => false
theorem cond2 {c d : Bool} {K : V → Prop} (k : K (.d (.bool (c && d)))) : cond c (cond d (K (.d (.bool true))) (K (.d (.bool false)))) (K (.d (.bool false))) := by
  cases c <;> cases d <;> exact k
theorem among_spec (h : tab[f]? = some f_is_among) (x : PyData) (a b : Int) (k : K (.d (.bool (amongB x a b)))) : wpCall tab (n + 1) hm f [.d x, .d (.int a), .d (.int b)] K X := by
  refine wpCall_in h rfl (by decide) ?_
  dsimp only [f_is_among, b_is_among, wpSs, wpS, wpE, wpEs, wpAnd, wpOr, wpC, wpSrc, wpSrcL, slot, F1.quiet, Ty.has, keepAll, partsF, frz, bindF, isNon, setAll, okRet, r_got, r_rd_d, r_rd_own, r_rd_brw, r_rd_ot, r_nm_d, r_nm_own, r_nm_brw, r_nm_exc, r_nm_ot, r_arg_d, r_arg_own, r_arg_brw, r_arg_exc, r_arg_ot, r_keep_d, r_keep_ownt, r_keep_ownf, r_keep_ott, r_keep_otf, r_kp_d, r_kp_own, r_kp_ot, r_ret_d, r_ret_own, r_ret_ot, r_ifB, r_add, r_sub, r_lt, r_le, r_gt, r_ge, r_not, r_int, r_isi_int_d, r_isi_bool_d, r_isi_list_d, r_isi_tuple_d, r_isi_int_own, r_isi_bool_own, r_isi_list_own, r_isi_tuple_own, r_isi_int_brw, r_isi_bool_brw, r_isi_list_brw, r_isi_tuple_brw, r_isi_exc, r_isi_val, r_isNone_d, r_isNone_own, r_max2, r_min2, r_ls_d, r_ls_own, r_low_int, r_pf_own, r_pf_d, r_it_d, r_it_own, r_it_dt, r_it_brw, numW, qW, q2W, d_map0, d_map1, d_app0, d_app1, d_get0, d_get1, d_set0, d_set1, d_rep0, d_rep1, d_len0, d_len1, d_omap, d_obind, d_ct, d_cf, d_nt, d_nf, d_fand, d_tand, d_op, Nat.reduceSub, Nat.reduceAdd]
  cases x with
  | int i => exact cond2 k
  | _ => exact k

noncomputable def cellAt (sc : List Int) (k : Int) : Int := sc.getD k.toNat 0
theorem cell_spec (h : tab[f]? = some f__law_cell) (sc : List Int) (k : Int) (hs : sc.length < 64) (hk0 : 0 ≤ k) (hk : k < 1000) (q : K (.d (.int (cellAt sc k)))) : wpCall tab (n + 1) hm f [.d (.list (ofInts sc)), .d (.int k)] K X := by
  have l : (ofInts sc).length < lim := by rw [length_ofInts, lim_eq]; omega
  refine wpCall_in h rfl (by decide) ?_
  dsimp only [f__law_cell, b__law_cell, wpSs, wpS, wpE, wpEs, wpAnd, wpOr, wpC, wpSrc, wpSrcL, slot, F1.quiet, Ty.has, keepAll, partsF, frz, bindF, isNon, setAll, okRet, r_got, r_rd_d, r_rd_own, r_rd_brw, r_rd_ot, r_nm_d, r_nm_own, r_nm_brw, r_nm_exc, r_nm_ot, r_arg_d, r_arg_own, r_arg_brw, r_arg_exc, r_arg_ot, r_keep_d, r_keep_ownt, r_keep_ownf, r_keep_ott, r_keep_otf, r_kp_d, r_kp_own, r_kp_ot, r_ret_d, r_ret_own, r_ret_ot, r_ifB, r_add, r_sub, r_lt, r_le, r_gt, r_ge, r_not, r_int, r_isi_int_d, r_isi_bool_d, r_isi_list_d, r_isi_tuple_d, r_isi_int_own, r_isi_bool_own, r_isi_list_own, r_isi_tuple_own, r_isi_int_brw, r_isi_bool_brw, r_isi_list_brw, r_isi_tuple_brw, r_isi_exc, r_isi_val, r_isNone_d, r_isNone_own, r_max2, r_min2, r_ls_d, r_ls_own, r_low_int, r_pf_own, r_pf_d, r_it_d, r_it_own, r_it_dt, r_it_brw, numW, qW, q2W, d_map0, d_map1, d_app0, d_app1, d_get0, d_get1, d_set0, d_set1, d_rep0, d_rep1, d_len0, d_len1, d_omap, d_obind, d_ct, d_cf, d_nt, d_nf, d_fand, d_tand, d_op, Nat.reduceSub, Nat.reduceAdd]
  rw [r_len_d l, length_ofInts]
  refine ifB_by (fun lt => ?_) (fun lt => ?_)
  · have lt' : k.toNat < sc.length := by omega
    have e2 : cellAt sc k = sc[k.toNat] := by unfold cellAt; rw [List.getD_eq_getElem?_getD, List.getElem?_eq_getElem lt']; rfl
    rw [r_idx_dl hk0 hk, getElem?_ofInts, List.getElem?_eq_getElem lt', ← e2]
    exact q
  · have e2 : cellAt sc k = 0 := by unfold cellAt; rw [List.getD_eq_getElem?_getD, List.getElem?_eq_none (by omega)]; rfl
    rw [e2] at q
    exact q

noncomputable def mixed (c k : Int) : Int := ((((c + 7919 * k + 13) * (c + 7919 * k + 13)).fmod 1000000007 * 48271).fmod 998244353).fdiv 11
theorem mixed_spec (h : tab[f]? = some f__law_mixed) (c k : Int) (ok : IntMulOk (c + 7919 * k + 13) (c + 7919 * k + 13)) (q : K (.d (.int (mixed c k)))) : wpCall tab (n + 1) hm f [.d (.int c), .d (.int k)] K X := by
  refine wpCall_in h rfl (by decide) ?_
  dsimp only [f__law_mixed, b__law_mixed, wpSs, wpS, wpE, wpEs, wpAnd, wpOr, wpC, wpSrc, wpSrcL, slot, F1.quiet, Ty.has, keepAll, partsF, frz, bindF, isNon, setAll, okRet, r_got, r_rd_d, r_rd_own, r_rd_brw, r_rd_ot, r_nm_d, r_nm_own, r_nm_brw, r_nm_exc, r_nm_ot, r_arg_d, r_arg_own, r_arg_brw, r_arg_exc, r_arg_ot, r_keep_d, r_keep_ownt, r_keep_ownf, r_keep_ott, r_keep_otf, r_kp_d, r_kp_own, r_kp_ot, r_ret_d, r_ret_own, r_ret_ot, r_ifB, r_add, r_sub, r_lt, r_le, r_gt, r_ge, r_not, r_int, r_isi_int_d, r_isi_bool_d, r_isi_list_d, r_isi_tuple_d, r_isi_int_own, r_isi_bool_own, r_isi_list_own, r_isi_tuple_own, r_isi_int_brw, r_isi_bool_brw, r_isi_list_brw, r_isi_tuple_brw, r_isi_exc, r_isi_val, r_isNone_d, r_isNone_own, r_max2, r_min2, r_ls_d, r_ls_own, r_low_int, r_pf_own, r_pf_d, r_it_d, r_it_own, r_it_dt, r_it_brw, numW, qW, q2W, d_map0, d_map1, d_app0, d_app1, d_get0, d_get1, d_set0, d_set1, d_rep0, d_rep1, d_len0, d_len1, d_omap, d_obind, d_ct, d_cf, d_nt, d_nf, d_fand, d_tand, d_op, Nat.reduceSub, Nat.reduceAdd]
  exact ⟨IntMulOk.of_left (by decide), ok, by decide, IntMulOk.of_right (by decide), by decide, ⟨by decide, by decide⟩, q⟩
noncomputable def wholeB : PyData → Bool
  | .int _ => true
  | _ => false
theorem whole_spec (h : tab[f]? = some f__law_whole) (x : PyData) (k : K (.d (.bool (wholeB x)))) : wpCall tab (n + 1) hm f [.d x] K X := by
  refine wpCall_in h rfl (by decide) ?_
  dsimp only [f__law_whole, b__law_whole, wpSs, wpS, wpE, wpEs, wpAnd, wpOr, wpC, wpSrc, wpSrcL, slot, F1.quiet, Ty.has, keepAll, partsF, frz, bindF, isNon, setAll, okRet, r_got, r_rd_d, r_rd_own, r_rd_brw, r_rd_ot, r_nm_d, r_nm_own, r_nm_brw, r_nm_exc, r_nm_ot, r_arg_d, r_arg_own, r_arg_brw, r_arg_exc, r_arg_ot, r_keep_d, r_keep_ownt, r_keep_ownf, r_keep_ott, r_keep_otf, r_kp_d, r_kp_own, r_kp_ot, r_ret_d, r_ret_own, r_ret_ot, r_ifB, r_add, r_sub, r_lt, r_le, r_gt, r_ge, r_not, r_int, r_isi_int_d, r_isi_bool_d, r_isi_list_d, r_isi_tuple_d, r_isi_int_own, r_isi_bool_own, r_isi_list_own, r_isi_tuple_own, r_isi_int_brw, r_isi_bool_brw, r_isi_list_brw, r_isi_tuple_brw, r_isi_exc, r_isi_val, r_isNone_d, r_isNone_own, r_max2, r_min2, r_ls_d, r_ls_own, r_low_int, r_pf_own, r_pf_d, r_it_d, r_it_own, r_it_dt, r_it_brw, numW, qW, q2W, d_map0, d_map1, d_app0, d_app1, d_get0, d_get1, d_set0, d_set1, d_rep0, d_rep1, d_len0, d_len1, d_omap, d_obind, d_ct, d_cf, d_nt, d_nf, d_fand, d_tand, d_op, Nat.reduceSub, Nat.reduceAdd]
  cases x <;> exact k
end
end TC

namespace TC
open PySem
section
variable {tab : List Fn} {n f : Nat} {hm : Bool} {K : V → Prop} {X : Nat → Prop}

noncomputable def Sml (x : Int) : Prop := Builtin.Int.intBits x ≤ 1048576
theorem mulOk_sml {c d : Int} {i j : Nat} (hc : Sml c) (hd : Sml d) (hi : i < 1000) (hj : j < 1000) : IntMulOk (c + 7919 * (i + 11 * j + d.fdiv 64) + 13) (c + 7919 * (i + 11 * j + d.fdiv 64) + 13) := by
  have h1 : Builtin.Int.intBits ((i : Int) + 11 * j) ≤ 64 := intBits_le_64 (by omega) (by omega)
  have h2 := intBits_add_le h1 (intBits_fdiv_le (y := 64) hd)
  have h3 := intBits_add_le (intBits_add_le hc (intBits_mul_le (show Builtin.Int.intBits 7919 ≤ 13 by decide) h2)) (show Builtin.Int.intBits 13 ≤ 4 by decide)
  exact IntMulOk.of_le h3 h3 (by decide)
theorem cell_sml {sc : List Int} (hb : ∀ x ∈ sc, Sml x) (k : Int) : Sml (cellAt sc k) := by
  unfold cellAt
  by_cases lt : k.toNat < sc.length
  · rw [List.getD_eq_getElem?_getD, List.getElem?_eq_getElem lt]; exact hb _ (List.getElem_mem lt)
  · rw [List.getD_eq_getElem?_getD, List.getElem?_eq_none (by omega)]; show Builtin.Int.intBits 0 ≤ _; decide

theorem pick {PY PN : Prop} {kd nu : Int} {i j : Nat} (h0 : 0 ≤ kd) (h6 : kd < 6) (Y : PY) (N : PN) :
    bif decide (kd < 4) then
      got (idxV (V.own (PyData.list [PyData.int 2, PyData.int 3, PyData.int 5, PyData.int 4])) kd) fun w => opW Op.mod (V.d (PyData.int nu)) w fun v => opW Op.eq v (V.d (PyData.int 0)) fun r => ifB r PY
        (bif decide (kd = 4) then 4 ≠ (0 : Int) ∧ bif decide (0 < nu.fmod 4) then PY else bif decide (kd = 5) then bif decide ((i : Int) = (j : Int) + 1) then PY else 6 ≠ (0 : Int) ∧ bif decide (nu.fmod 6 = 0) then PY else PN else PN
          else bif decide (kd = 5) then bif decide ((i : Int) = (j : Int) + 1) then PY else 6 ≠ (0 : Int) ∧ bif decide (nu.fmod 6 = 0) then PY else PN else PN)
    else (bif decide (kd = 4) then 4 ≠ (0 : Int) ∧ bif decide (0 < nu.fmod 4) then PY else bif decide (kd = 5) then bif decide ((i : Int) = (j : Int) + 1) then PY else 6 ≠ (0 : Int) ∧ bif decide (nu.fmod 6 = 0) then PY else PN else PN
          else bif decide (kd = 5) then bif decide ((i : Int) = (j : Int) + 1) then PY else 6 ≠ (0 : Int) ∧ bif decide (nu.fmod 6 = 0) then PY else PN else PN) := by
  have R5 : bif decide (kd = 5) then bif decide ((i : Int) = (j : Int) + 1) then PY else 6 ≠ (0 : Int) ∧ bif decide (nu.fmod 6 = 0) then PY else PN else PN := ifB_by (fun _ => ifB_by (fun _ => Y) fun _ => ⟨by decide, ifB_by (fun _ => Y) fun _ => N⟩) fun _ => N
  have R4 : bif decide (kd = 4) then 4 ≠ (0 : Int) ∧ bif decide (0 < nu.fmod 4) then PY else bif decide (kd = 5) then bif decide ((i : Int) = (j : Int) + 1) then PY else 6 ≠ (0 : Int) ∧ bif decide (nu.fmod 6 = 0) then PY else PN else PN else bif decide (kd = 5) then bif decide ((i : Int) = (j : Int) + 1) then PY else 6 ≠ (0 : Int) ∧ bif decide (nu.fmod 6 = 0) then PY else PN else PN := ifB_by (fun _ => ⟨by decide, ifB_by (fun _ => Y) fun _ => R5⟩) fun _ => R5
  generalize (bif decide (kd = 4) then 4 ≠ (0 : Int) ∧ bif decide (0 < nu.fmod 4) then PY else bif decide (kd = 5) then bif decide ((i : Int) = (j : Int) + 1) then PY else 6 ≠ (0 : Int) ∧ bif decide (nu.fmod 6 = 0) then PY else PN else PN else bif decide (kd = 5) then bif decide ((i : Int) = (j : Int) + 1) then PY else 6 ≠ (0 : Int) ∧ bif decide (nu.fmod 6 = 0) then PY else PN else PN) = P4 at *
  refine ifB_by (fun h4 => ?_) fun _ => R4
  rw [r_idx_ownl h0 (by omega)]
  have kk : kd = 0 ∨ kd = 1 ∨ kd = 2 ∨ kd = 3 := by omega
  rcases kk with rfl | rfl | rfl | rfl <;> refine ⟨?_, ifB_by (fun _ => Y) fun _ => R4⟩
  · exact (by decide : (2 : Int) ≠ 0)
  · exact (by decide : (3 : Int) ≠ 0)
  · exact (by decide : (5 : Int) ≠ 0)
  · exact (by decide : (4 : Int) ≠ 0)
theorem web_spec (hw : tab[f]? = some f__law_web) (hc : tab[4]? = some f__law_cell) (hx : tab[5]? = some f__law_mixed) (sc : List Int) (hs : sc.length < 64) (hb : ∀ x ∈ sc, Sml x) (fi mo : Nat) (hfi : fi < 100) (hm0 : 0 < mo) (hm1 : mo ≤ 10)
    (q : ∀ (sz : Nat) (ts : List (Nat × Nat)), 0 < sz → sz ≤ mo → WebOk sz ts → K (.ot [(false, .int sz), (true, .list (ofPairs ts))])) : wpCall tab (n + 2) false f [.d (.list (ofInts sc)), .d (.int fi), .d (.int mo)] K X := by
  refine wpCall_in hw rfl (by decide) ?_
  dsimp only [f__law_web, b__law_web, wpSs, wpS, wpE, wpEs, wpAnd, wpOr, wpC, wpSrc, wpSrcL, slot, F1.quiet, Ty.has, keepAll, partsF, frz, bindF, isNon, setAll, okRet, r_got, r_rd_d, r_rd_own, r_rd_brw, r_rd_ot, r_nm_d, r_nm_own, r_nm_brw, r_nm_exc, r_nm_ot, r_arg_d, r_arg_own, r_arg_brw, r_arg_exc, r_arg_ot, r_keep_d, r_keep_ownt, r_keep_ownf, r_keep_ott, r_keep_otf, r_kp_d, r_kp_own, r_kp_ot, r_ret_d, r_ret_own, r_ret_ot, r_ifB, r_add, r_sub, r_lt, r_le, r_gt, r_ge, r_not, r_int, r_isi_int_d, r_isi_bool_d, r_isi_list_d, r_isi_tuple_d, r_isi_int_own, r_isi_bool_own, r_isi_list_own, r_isi_tuple_own, r_isi_int_brw, r_isi_bool_brw, r_isi_list_brw, r_isi_tuple_brw, r_isi_exc, r_isi_val, r_isNone_d, r_isNone_own, r_max2, r_min2, r_ls_d, r_ls_own, r_low_int, r_pf_own, r_pf_d, r_it_d, r_it_own, r_it_dt, r_it_brw, numW, qW, q2W, d_map0, d_map1, d_app0, d_app1, d_get0, d_get1, d_set0, d_set1, d_rep0, d_rep1, d_len0, d_len1, d_omap, d_obind, d_ct, d_cf, d_nt, d_nf, d_fand, d_tand, d_op, Nat.reduceSub, Nat.reduceAdd]
  refine cell_spec hc sc fi hs (by omega) (by omega) ?_
  have hch := cell_sml hb (fi : Int)
  generalize cellAt sc (fi : Int) = ch at *
  have z0 := fmod_nonneg' (a := ch) (b := mo) (by omega)
  have z1 := fmod_lt' (a := ch) (b := mo) (by omega)
  obtain ⟨sz, hsz⟩ : ∃ sz : Nat, 1 + ch.fmod mo = sz := ⟨(1 + ch.fmod mo).toNat, by omega⟩
  have s0 : 0 < sz := by omega
  have s1 : sz ≤ mo := by omega
  dsimp only [wpSs, wpS, wpE, wpEs, wpAnd, wpOr, wpC, wpSrc, wpSrcL, slot, F1.quiet, Ty.has, keepAll, partsF, frz, bindF, isNon, setAll, okRet, r_got, r_rd_d, r_rd_own, r_rd_brw, r_rd_ot, r_nm_d, r_nm_own, r_nm_brw, r_nm_exc, r_nm_ot, r_arg_d, r_arg_own, r_arg_brw, r_arg_exc, r_arg_ot, r_keep_d, r_keep_ownt, r_keep_ownf, r_keep_ott, r_keep_otf, r_kp_d, r_kp_own, r_kp_ot, r_ret_d, r_ret_own, r_ret_ot, r_ifB, r_add, r_sub, r_lt, r_le, r_gt, r_ge, r_not, r_int, r_isi_int_d, r_isi_bool_d, r_isi_list_d, r_isi_tuple_d, r_isi_int_own, r_isi_bool_own, r_isi_list_own, r_isi_tuple_own, r_isi_int_brw, r_isi_bool_brw, r_isi_list_brw, r_isi_tuple_brw, r_isi_exc, r_isi_val, r_isNone_d, r_isNone_own, r_max2, r_min2, r_ls_d, r_ls_own, r_low_int, r_pf_own, r_pf_d, r_it_d, r_it_own, r_it_dt, r_it_brw, numW, qW, q2W, d_map0, d_map1, d_app0, d_app1, d_get0, d_get1, d_set0, d_set1, d_rep0, d_rep1, d_len0, d_len1, d_omap, d_obind, d_ct, d_cf, d_nt, d_nf, d_fand, d_tand, d_op, Nat.reduceSub, Nat.reduceAdd]
  rw [hsz]
  refine ⟨by omega, rfl, by rw [lim_eq]; omega, by rw [lim_eq]; omega, ?_⟩
  refine forW_idx _ (fun i ρ => ∃ ts a6 a7 a8 a9, ρ = [some (V.d (PyData.list (ofInts sc))), some (V.d (PyData.int fi)), some (V.d (PyData.int mo)), some (V.d (PyData.int ch)), some (V.d (PyData.int sz)), some (V.own (PyData.list (ofPairs ts))), a6, a7, a8, a9, none] ∧ List.Sublist ts (pairsTo i)) ?_ ?_ _ ⟨[], none, none, none, none, rfl, List.nil_sublist _⟩
  · rintro ρ ⟨ts, a6, a7, a8, a9, rfl, sub⟩
    rw [List.length_map, rngL_length, Int.toNat_natCast] at sub
    have len : ts.length ≤ 100 := by
      have := sub.length_le
      have := pairsTo_length sz
      have : sz * sz ≤ 10 * 10 := Nat.mul_le_mul (by omega) (by omega)
      omega
    have l1 : (ofPairs ts).length < lim := by rw [length_ofPairs, lim_eq]; omega
    have z0 := fmod_nonneg' (a := ch.fdiv 60) (b := 1 + (ts.length : Int)) (by omega)
    have z1 := fmod_lt' (a := ch.fdiv 60) (b := 1 + (ts.length : Int)) (by omega)
    dsimp only [b__law_web_3, wpSs, wpS, wpE, wpEs, wpAnd, wpOr, wpC, wpSrc, wpSrcL, slot, F1.quiet, Ty.has, keepAll, partsF, frz, bindF, isNon, setAll, okRet, r_got, r_rd_d, r_rd_own, r_rd_brw, r_rd_ot, r_nm_d, r_nm_own, r_nm_brw, r_nm_exc, r_nm_ot, r_arg_d, r_arg_own, r_arg_brw, r_arg_exc, r_arg_ot, r_keep_d, r_keep_ownt, r_keep_ownf, r_keep_ott, r_keep_otf, r_kp_d, r_kp_own, r_kp_ot, r_ret_d, r_ret_own, r_ret_ot, r_ifB, r_add, r_sub, r_lt, r_le, r_gt, r_ge, r_not, r_int, r_isi_int_d, r_isi_bool_d, r_isi_list_d, r_isi_tuple_d, r_isi_int_own, r_isi_bool_own, r_isi_list_own, r_isi_tuple_own, r_isi_int_brw, r_isi_bool_brw, r_isi_list_brw, r_isi_tuple_brw, r_isi_exc, r_isi_val, r_isNone_d, r_isNone_own, r_max2, r_min2, r_ls_d, r_ls_own, r_low_int, r_pf_own, r_pf_d, r_it_d, r_it_own, r_it_dt, r_it_brw, numW, qW, q2W, d_map0, d_map1, d_app0, d_app1, d_get0, d_get1, d_set0, d_set1, d_rep0, d_rep1, d_len0, d_len1, d_omap, d_obind, d_ct, d_cf, d_nt, d_nf, d_fand, d_tand, d_op, Nat.reduceSub, Nat.reduceAdd]
    rw [r_len_brw l1, length_ofPairs]
    refine ⟨⟨by decide, by decide⟩, by omega, ?_⟩
    dsimp only [wpSs, wpS, wpE, wpEs, wpAnd, wpOr, wpC, wpSrc, wpSrcL, slot, F1.quiet, Ty.has, keepAll, partsF, frz, bindF, isNon, setAll, okRet, r_got, r_rd_d, r_rd_own, r_rd_brw, r_rd_ot, r_nm_d, r_nm_own, r_nm_brw, r_nm_exc, r_nm_ot, r_arg_d, r_arg_own, r_arg_brw, r_arg_exc, r_arg_ot, r_keep_d, r_keep_ownt, r_keep_ownf, r_keep_ott, r_keep_otf, r_kp_d, r_kp_own, r_kp_ot, r_ret_d, r_ret_own, r_ret_ot, r_ifB, r_add, r_sub, r_lt, r_le, r_gt, r_ge, r_not, r_int, r_isi_int_d, r_isi_bool_d, r_isi_list_d, r_isi_tuple_d, r_isi_int_own, r_isi_bool_own, r_isi_list_own, r_isi_tuple_own, r_isi_int_brw, r_isi_bool_brw, r_isi_list_brw, r_isi_tuple_brw, r_isi_exc, r_isi_val, r_isNone_d, r_isNone_own, r_max2, r_min2, r_ls_d, r_ls_own, r_low_int, r_pf_own, r_pf_d, r_it_d, r_it_own, r_it_dt, r_it_brw, numW, qW, q2W, d_map0, d_map1, d_app0, d_app1, d_get0, d_get1, d_set0, d_set1, d_rep0, d_rep1, d_len0, d_len1, d_omap, d_obind, d_ct, d_cf, d_nt, d_nf, d_fand, d_tand, d_op, Nat.reduceSub, Nat.reduceAdd]
    generalize (ch.fdiv 60).fmod (1 + (ts.length : Int)) = tu at *
    have tl : tu < (lim : Int) := by rw [lim_eq]; omega
    rw [r_from (r_ls_brw (flats_ofPairs ts)) z0 tl l1, r_to (r_ls_brw (flats_ofPairs ts)) z0 tl l1, ofPairs_drop, ofPairs_take]
    show got (Op.ev .add _ _) _
    rw [r_addl rfl rfl rfl rfl (by rw [length_ofPairs, length_ofPairs, List.length_drop, List.length_take, lim_eq]; omega), ofPairs_append]
    exact q sz _ s0 s1 ⟨ts, tu.toNat, sub, rfl⟩
  · rintro i hi ρ k ⟨ts, a6, a7, a8, a9, rfl, sub⟩ cont _
    have hi' : i < sz := by rw [List.length_map, rngL_length] at hi; omega
    rw [List.getElem_map, rngL_get]
    dsimp only [b__law_web_2, wpSs, wpS, wpE, wpEs, wpAnd, wpOr, wpC, wpSrc, wpSrcL, slot, F1.quiet, Ty.has, keepAll, partsF, frz, bindF, isNon, setAll, okRet, r_got, r_rd_d, r_rd_own, r_rd_brw, r_rd_ot, r_nm_d, r_nm_own, r_nm_brw, r_nm_exc, r_nm_ot, r_arg_d, r_arg_own, r_arg_brw, r_arg_exc, r_arg_ot, r_keep_d, r_keep_ownt, r_keep_ownf, r_keep_ott, r_keep_otf, r_kp_d, r_kp_own, r_kp_ot, r_ret_d, r_ret_own, r_ret_ot, r_ifB, r_add, r_sub, r_lt, r_le, r_gt, r_ge, r_not, r_int, r_isi_int_d, r_isi_bool_d, r_isi_list_d, r_isi_tuple_d, r_isi_int_own, r_isi_bool_own, r_isi_list_own, r_isi_tuple_own, r_isi_int_brw, r_isi_bool_brw, r_isi_list_brw, r_isi_tuple_brw, r_isi_exc, r_isi_val, r_isNone_d, r_isNone_own, r_max2, r_min2, r_ls_d, r_ls_own, r_low_int, r_pf_own, r_pf_d, r_it_d, r_it_own, r_it_dt, r_it_brw, numW, qW, q2W, d_map0, d_map1, d_app0, d_app1, d_get0, d_get1, d_set0, d_set1, d_rep0, d_rep1, d_len0, d_len1, d_omap, d_obind, d_ct, d_cf, d_nt, d_nf, d_fand, d_tand, d_op, Nat.reduceSub, Nat.reduceAdd]
    refine ⟨rfl, by rw [lim_eq]; omega, by rw [lim_eq]; omega, ?_⟩
    refine forW_idx _ (fun j ρ => ∃ ts a7 a8 a9, ρ = [some (V.d (PyData.list (ofInts sc))), some (V.d (PyData.int fi)), some (V.d (PyData.int mo)), some (V.d (PyData.int ch)), some (V.d (PyData.int sz)), some (V.own (PyData.list (ofPairs ts))), some (V.d (PyData.int i)), a7, a8, a9, none] ∧ List.Sublist ts (pairsTo i ++ (List.range j).map fun k => (k, i))) ?_ ?_ _ ⟨ts, a7, a8, a9, rfl, by simpa using sub⟩
    · rintro ρ ⟨ts, a7, a8, a9, rfl, sub⟩
      refine cont _ ⟨ts, _, a7, a8, a9, rfl, ?_⟩
      rw [List.length_map, rngL_length, Int.toNat_natCast] at sub
      rw [pairsTo_succ]; exact sub
    · rintro j hj ρ k2 ⟨ts, a7, a8, a9, rfl, sub⟩ cont2 _
      have hj' : j < i := by rw [List.length_map, rngL_length] at hj; omega
      rw [List.getElem_map, rngL_get]
      have no := fun a8 a9 => cont2 _ ⟨ts, some (V.d (.int j)), a8, a9, rfl, sub.trans (List.Sublist.append (List.Sublist.refl _) (by rw [List.range_succ, List.map_append]; exact List.sublist_append_left ..))⟩
      have yes := fun a8 a9 => cont2 _ ⟨ts ++ [(j, i)], some (V.d (.int j)), a8, a9, rfl, by rw [List.range_succ, List.map_append, ← List.append_assoc]; exact List.Sublist.append sub (List.Sublist.refl _)⟩
      have len : ts.length ≤ 200 := by
        have h1 := sub.length_le
        rw [List.length_append, List.length_map, List.length_range] at h1
        have := pairsTo_length i
        have : i * i ≤ 10 * 10 := Nat.mul_le_mul (by omega) (by omega)
        omega
      have l1 : (ofPairs ts).length < lim := by rw [length_ofPairs, lim_eq]; omega
      rw [← ofPairs_append] at yes
      have y0 := fmod_nonneg' (a := (j : Int) + 3 * i) (b := 6) (by omega)
      have y1 := fmod_lt' (a := (j : Int) + 3 * i) (b := 6) (by omega)
      dsimp only [b__law_web_1, wpSs, wpS, wpE, wpEs, wpAnd, wpOr, wpC, wpSrc, wpSrcL, slot, F1.quiet, Ty.has, keepAll, partsF, frz, bindF, isNon, setAll, okRet, r_got, r_rd_d, r_rd_own, r_rd_brw, r_rd_ot, r_nm_d, r_nm_own, r_nm_brw, r_nm_exc, r_nm_ot, r_arg_d, r_arg_own, r_arg_brw, r_arg_exc, r_arg_ot, r_keep_d, r_keep_ownt, r_keep_ownf, r_keep_ott, r_keep_otf, r_kp_d, r_kp_own, r_kp_ot, r_ret_d, r_ret_own, r_ret_ot, r_ifB, r_add, r_sub, r_lt, r_le, r_gt, r_ge, r_not, r_int, r_isi_int_d, r_isi_bool_d, r_isi_list_d, r_isi_tuple_d, r_isi_int_own, r_isi_bool_own, r_isi_list_own, r_isi_tuple_own, r_isi_int_brw, r_isi_bool_brw, r_isi_list_brw, r_isi_tuple_brw, r_isi_exc, r_isi_val, r_isNone_d, r_isNone_own, r_max2, r_min2, r_ls_d, r_ls_own, r_low_int, r_pf_own, r_pf_d, r_it_d, r_it_own, r_it_dt, r_it_brw, numW, qW, q2W, d_map0, d_map1, d_app0, d_app1, d_get0, d_get1, d_set0, d_set1, d_rep0, d_rep1, d_len0, d_len1, d_omap, d_obind, d_ct, d_cf, d_nt, d_nf, d_fand, d_tand, d_op, Nat.reduceSub, Nat.reduceAdd]
      refine ⟨IntMulOk.of_left (by decide), by decide, ?_⟩
      refine cell_spec hc sc _ hs (by omega) (by omega) ?_
      refine ⟨IntMulOk.of_left (by decide), ⟨by decide, by decide⟩, ?_⟩
      refine mixed_spec hx _ _ (mulOk_sml (cell_sml hb _) hch (by omega) (by omega)) ?_
      generalize mixed _ _ = nu
      have x0 := fmod_nonneg' (a := ch.fdiv 10) (b := 6) (by omega)
      have x1 := fmod_lt' (a := ch.fdiv 10) (b := 6) (by omega)
      dsimp only [wpSs, wpS, wpE, wpEs, wpAnd, wpOr, wpC, wpSrc, wpSrcL, slot, F1.quiet, Ty.has, keepAll, partsF, frz, bindF, isNon, setAll, okRet, r_got, r_rd_d, r_rd_own, r_rd_brw, r_rd_ot, r_nm_d, r_nm_own, r_nm_brw, r_nm_exc, r_nm_ot, r_arg_d, r_arg_own, r_arg_brw, r_arg_exc, r_arg_ot, r_keep_d, r_keep_ownt, r_keep_ownf, r_keep_ott, r_keep_otf, r_kp_d, r_kp_own, r_kp_ot, r_ret_d, r_ret_own, r_ret_ot, r_ifB, r_add, r_sub, r_lt, r_le, r_gt, r_ge, r_not, r_int, r_isi_int_d, r_isi_bool_d, r_isi_list_d, r_isi_tuple_d, r_isi_int_own, r_isi_bool_own, r_isi_list_own, r_isi_tuple_own, r_isi_int_brw, r_isi_bool_brw, r_isi_list_brw, r_isi_tuple_brw, r_isi_exc, r_isi_val, r_isNone_d, r_isNone_own, r_max2, r_min2, r_ls_d, r_ls_own, r_low_int, r_pf_own, r_pf_d, r_it_d, r_it_own, r_it_dt, r_it_brw, numW, qW, q2W, d_map0, d_map1, d_app0, d_app1, d_get0, d_get1, d_set0, d_set1, d_rep0, d_rep1, d_len0, d_len1, d_omap, d_obind, d_ct, d_cf, d_nt, d_nf, d_fand, d_tand, d_op, Nat.reduceSub, Nat.reduceAdd]
      refine ⟨⟨by decide, by decide⟩, by decide, ?_⟩
      generalize (ch.fdiv 10).fmod 6 = kd at *
      exact pick x0 x1 ⟨l1, yes _ _⟩ (no _ _)
end
end TC

namespace TC
open PySem
section
variable {tab : List Fn} {n f : Nat} {hm : Bool} {K : V → Prop} {X : Nat → Prop}

theorem shaped_pair (a b : Int) : SeqAt.shaped (.tuple [.int a, .int b]) = true := by unfold SeqAt.shaped; simp [PyData.canLay0, PyData.canLayAll0, PyData.depth, PyData.depthAll]
theorem r_in2 (p a b : Int) : Op.ev .isin (.d (.int p)) (.d (.tuple [.int a, .int b])) = some (.d (.bool (decide (a = p) || decide (b = p)))) := by
  show (inD (.int p) (.tuple [.int a, .int b])).map (fun b => V.d (.bool b)) = _
  unfold inD
  simp only [seqOf, Option.bind_some, shaped_int, shaped_pair, Bool.and_true, if_true]
  simp [PyData.eqv]; rfl
noncomputable def cnt (ts : List (Nat × Nat)) (p : Nat) : Nat := ts.countP fun t => decide (t.1 = p) || decide (t.2 = p)
noncomputable def ctL (sz : Nat) (ts : List (Nat × Nat)) : List Int := (List.range sz).map fun p => (cnt ts p : Int)
noncomputable def inP (p : Nat) : V → Option PyData
  | .d (.tuple [.int a, .int b]) => if (decide (a = p) || decide (b = p)) then some (.int 1) else none
  | _ => none
theorem inP_len (p : Nat) : ∀ ts : List (Nat × Nat), (List.filterMap (inP p) ((ofPairs ts).map V.d)).length = cnt ts p
  | [] => rfl
  | t :: ts => by
    have ih := inP_len p ts
    have e : (ofPairs (t :: ts)).map V.d = V.d (.tuple [.int t.1, .int t.2]) :: (ofPairs ts).map V.d := rfl
    rw [e, List.filterMap_cons]
    unfold cnt at ih ⊢
    rw [List.countP_cons]
    simp only [inP]
    by_cases c1 : t.1 = p
    · have c1' : (t.1 : Int) = p := by omega
      simp [c1, c1', ih, -List.filterMap_map]
    · have c1' : ¬ (t.1 : Int) = p := by omega
      by_cases c2 : t.2 = p
      · have c2' : (t.2 : Int) = p := by omega
        simp [c1, c1', c2, c2', ih, -List.filterMap_map]
      · have c2' : ¬ (t.2 : Int) = p := by omega
        simp [c1, c1', c2, c2', ih, -List.filterMap_map]
theorem counts_spec (hc : tab[f]? = some f__law_counts) (sz : Nat) (hz : sz ≤ 10) (ts : List (Nat × Nat)) (hl : ts.length < 1000) (q : K (.own (.list (ofInts (ctL sz ts))))) : wpCall tab (n + 1) false f [.d (.int sz), .d (.list (ofPairs ts))] K X := by
  have l1 : (ofPairs ts).length < lim := by rw [length_ofPairs, lim_eq]; omega
  refine wpCall_in hc rfl (by decide) ?_
  dsimp only [f__law_counts, b__law_counts, wpSs, wpS, wpE, wpEs, wpAnd, wpOr, wpC, wpSrc, wpSrcL, slot, F1.quiet, Ty.has, keepAll, partsF, frz, bindF, isNon, setAll, okRet, r_got, r_rd_d, r_rd_own, r_rd_brw, r_rd_ot, r_nm_d, r_nm_own, r_nm_brw, r_nm_exc, r_nm_ot, r_arg_d, r_arg_own, r_arg_brw, r_arg_exc, r_arg_ot, r_keep_d, r_keep_ownt, r_keep_ownf, r_keep_ott, r_keep_otf, r_kp_d, r_kp_own, r_kp_ot, r_ret_d, r_ret_own, r_ret_ot, r_ifB, r_add, r_sub, r_lt, r_le, r_gt, r_ge, r_not, r_int, r_isi_int_d, r_isi_bool_d, r_isi_list_d, r_isi_tuple_d, r_isi_int_own, r_isi_bool_own, r_isi_list_own, r_isi_tuple_own, r_isi_int_brw, r_isi_bool_brw, r_isi_list_brw, r_isi_tuple_brw, r_isi_exc, r_isi_val, r_isNone_d, r_isNone_own, r_max2, r_min2, r_ls_d, r_ls_own, r_low_int, r_pf_own, r_pf_d, r_it_d, r_it_own, r_it_dt, r_it_brw, numW, qW, q2W, d_map0, d_map1, d_app0, d_app1, d_get0, d_get1, d_set0, d_set1, d_rep0, d_rep1, d_len0, d_len1, d_omap, d_obind, d_ct, d_cf, d_nt, d_nf, d_fand, d_tand, d_op, Nat.reduceSub, Nat.reduceAdd]
  refine ⟨rfl, by rw [lim_eq]; omega, by rw [lim_eq]; omega, ?_⟩
  refine compW_map (fun v => match v with | .d (.int p) => .int (cnt ts p.toNat) | _ => .none) _ _ (fun x hx k hk => ?_) ?_ ?_
  · obtain ⟨p, hp, rfl⟩ := List.mem_map.mp hx
    obtain ⟨p, hp, rfl⟩ := List.mem_map.mp hp
    simp only [Int.zero_add, Int.toNat_natCast] at hk ⊢
    dsimp only [wpSs, wpS, wpE, wpEs, wpAnd, wpOr, wpC, wpSrc, wpSrcL, slot, F1.quiet, Ty.has, keepAll, partsF, frz, bindF, isNon, setAll, okRet, r_got, r_rd_d, r_rd_own, r_rd_brw, r_rd_ot, r_nm_d, r_nm_own, r_nm_brw, r_nm_exc, r_nm_ot, r_arg_d, r_arg_own, r_arg_brw, r_arg_exc, r_arg_ot, r_keep_d, r_keep_ownt, r_keep_ownf, r_keep_ott, r_keep_otf, r_kp_d, r_kp_own, r_kp_ot, r_ret_d, r_ret_own, r_ret_ot, r_ifB, r_add, r_sub, r_lt, r_le, r_gt, r_ge, r_not, r_int, r_isi_int_d, r_isi_bool_d, r_isi_list_d, r_isi_tuple_d, r_isi_int_own, r_isi_bool_own, r_isi_list_own, r_isi_tuple_own, r_isi_int_brw, r_isi_bool_brw, r_isi_list_brw, r_isi_tuple_brw, r_isi_exc, r_isi_val, r_isNone_d, r_isNone_own, r_max2, r_min2, r_ls_d, r_ls_own, r_low_int, r_pf_own, r_pf_d, r_it_d, r_it_own, r_it_dt, r_it_brw, numW, qW, q2W, d_map0, d_map1, d_app0, d_app1, d_get0, d_get1, d_set0, d_set1, d_rep0, d_rep1, d_len0, d_len1, d_omap, d_obind, d_ct, d_cf, d_nt, d_nf, d_fand, d_tand, d_op, Nat.reduceSub, Nat.reduceAdd]
    refine ⟨by rw [List.length_map]; exact l1, ?_⟩
    refine compW_filter (inP p) _ _ (fun x hx k hk => ?_) ?_ ?_
    · obtain ⟨t, ht, rfl⟩ := List.mem_map.mp hx
      obtain ⟨t, ht, rfl⟩ := List.mem_map.mp ht
      dsimp only [wpSs, wpS, wpE, wpEs, wpAnd, wpOr, wpC, wpSrc, wpSrcL, slot, F1.quiet, Ty.has, keepAll, partsF, frz, bindF, isNon, setAll, okRet, r_got, r_rd_d, r_rd_own, r_rd_brw, r_rd_ot, r_nm_d, r_nm_own, r_nm_brw, r_nm_exc, r_nm_ot, r_arg_d, r_arg_own, r_arg_brw, r_arg_exc, r_arg_ot, r_keep_d, r_keep_ownt, r_keep_ownf, r_keep_ott, r_keep_otf, r_kp_d, r_kp_own, r_kp_ot, r_ret_d, r_ret_own, r_ret_ot, r_ifB, r_add, r_sub, r_lt, r_le, r_gt, r_ge, r_not, r_int, r_isi_int_d, r_isi_bool_d, r_isi_list_d, r_isi_tuple_d, r_isi_int_own, r_isi_bool_own, r_isi_list_own, r_isi_tuple_own, r_isi_int_brw, r_isi_bool_brw, r_isi_list_brw, r_isi_tuple_brw, r_isi_exc, r_isi_val, r_isNone_d, r_isNone_own, r_max2, r_min2, r_ls_d, r_ls_own, r_low_int, r_pf_own, r_pf_d, r_it_d, r_it_own, r_it_dt, r_it_brw, numW, qW, q2W, d_map0, d_map1, d_app0, d_app1, d_get0, d_get1, d_set0, d_set1, d_rep0, d_rep1, d_len0, d_len1, d_omap, d_obind, d_ct, d_cf, d_nt, d_nf, d_fand, d_tand, d_op, Nat.reduceSub, Nat.reduceAdd]
      refine opW_other rfl ?_
      rw [r_in2]
      dsimp only [inP] at hk
      dsimp only [wpSs, wpS, wpE, wpEs, wpAnd, wpOr, wpC, wpSrc, wpSrcL, slot, F1.quiet, Ty.has, keepAll, partsF, frz, bindF, isNon, setAll, okRet, r_got, r_rd_d, r_rd_own, r_rd_brw, r_rd_ot, r_nm_d, r_nm_own, r_nm_brw, r_nm_exc, r_nm_ot, r_arg_d, r_arg_own, r_arg_brw, r_arg_exc, r_arg_ot, r_keep_d, r_keep_ownt, r_keep_ownf, r_keep_ott, r_keep_otf, r_kp_d, r_kp_own, r_kp_ot, r_ret_d, r_ret_own, r_ret_ot, r_ifB, r_add, r_sub, r_lt, r_le, r_gt, r_ge, r_not, r_int, r_isi_int_d, r_isi_bool_d, r_isi_list_d, r_isi_tuple_d, r_isi_int_own, r_isi_bool_own, r_isi_list_own, r_isi_tuple_own, r_isi_int_brw, r_isi_bool_brw, r_isi_list_brw, r_isi_tuple_brw, r_isi_exc, r_isi_val, r_isNone_d, r_isNone_own, r_max2, r_min2, r_ls_d, r_ls_own, r_low_int, r_pf_own, r_pf_d, r_it_d, r_it_own, r_it_dt, r_it_brw, numW, qW, q2W, d_map0, d_map1, d_app0, d_app1, d_get0, d_get1, d_set0, d_set1, d_rep0, d_rep1, d_len0, d_len1, d_omap, d_obind, d_ct, d_cf, d_nt, d_nf, d_fand, d_tand, d_op, Nat.reduceSub, Nat.reduceAdd]
      generalize (decide ((t.1 : Int) = p) || decide ((t.2 : Int) = p)) = c at *
      cases c <;> exact hk
    · rw [List.nil_append]
      refine Nat.lt_of_le_of_lt (List.length_filterMap_le ..) ?_
      rw [List.length_map]; exact l1
    · rw [List.nil_append, r_len_own (by rw [inP_len, lim_eq]; exact Nat.lt_of_le_of_lt (List.countP_le_length) (by omega)), inP_len]
      exact hk
  · rw [List.nil_append, List.length_map, List.length_map, rngL_length, lim_eq]; omega
  · rw [List.nil_append]
    have e : List.map (fun v => match v with | V.d (PyData.int p) => PyData.int (cnt ts p.toNat) | _ => PyData.none) (List.map (fun i => V.d (PyData.int i)) (rangeL 0 (sz : Int))) = ofInts (ctL sz ts) := by
      unfold ofInts ctL rangeL; simp [Function.comp_def]
    rw [e]; exact q

theorem WebOk.perm {sz : Nat} {ts : List (Nat × Nat)} (h : WebOk sz ts) : ∃ t0, List.Sublist t0 (pairsTo sz) ∧ List.Perm ts t0 := by
  obtain ⟨t0, k, h, rfl⟩ := h
  exact ⟨t0, h, List.perm_append_comm.trans (by rw [List.take_append_drop])⟩
theorem WebOk.length {sz : Nat} {ts : List (Nat × Nat)} (h : WebOk sz ts) (hz : sz ≤ 10) : ts.length ≤ 100 := by
  obtain ⟨t0, h, p⟩ := h.perm
  have := p.length_eq
  have := h.length_le
  have := pairsTo_length sz
  have : sz * sz ≤ 10 * 10 := Nat.mul_le_mul hz hz
  omega
theorem cnt_pairs : ∀ sz < 11, ∀ p < 10, cnt (pairsTo sz) p ≤ 9 := by decide
theorem WebOk.cnt {sz : Nat} {ts : List (Nat × Nat)} (h : WebOk sz ts) (hz : sz ≤ 10) {p : Nat} (hp : p < sz) : cnt ts p ≤ 9 := by
  obtain ⟨t0, h, pe⟩ := h.perm
  unfold TC.cnt
  rw [pe.countP_eq]
  exact Nat.le_trans (h.countP_le) (cnt_pairs sz (by omega) p (by omega))
/-- a list of counts -/
noncomputable def Cts (cs : List Int) : Prop := 0 < cs.length ∧ cs.length ≤ 10 ∧ ∀ c ∈ cs, 0 ≤ c ∧ c ≤ 20
theorem WebOk.cts {sz : Nat} {ts : List (Nat × Nat)} (h : WebOk sz ts) (h0 : 0 < sz) (hz : sz ≤ 10) : Cts (ctL sz ts) := by
  refine ⟨by simp [ctL]; omega, by simp [ctL]; omega, fun c hc => ?_⟩
  obtain ⟨p, hp, rfl⟩ := List.mem_map.mp hc
  have := h.cnt hz (List.mem_range.mp hp)
  omega
theorem mulOk_small {c : Int} {j : Nat} (hc : Sml c) (hj : j < 1000) : IntMulOk (c + 7919 * (j : Int) + 13) (c + 7919 * (j : Int) + 13) := by
  have h1 : Builtin.Int.intBits (j : Int) ≤ 64 := intBits_le_64 (by omega) (by omega)
  have h3 := intBits_add_le (intBits_add_le hc (intBits_mul_le (show Builtin.Int.intBits 7919 ≤ 13 by decide) h1)) (show Builtin.Int.intBits 13 ≤ 4 by decide)
  exact IntMulOk.of_le h3 h3 (by decide)

theorem drawn_spec (h : tab[f]? = some f__law_drawn) (hw : tab[7]? = some f__law_web) (hco : tab[8]? = some f__law_counts) (hc : tab[4]? = some f__law_cell) (hx : tab[5]? = some f__law_mixed) (sc : List Int) (hs : sc.length < 64) (hb : ∀ x ∈ sc, Sml x) (fi mo : Nat) (hfi : fi < 100) (hm0 : 0 < mo) (hm1 : mo ≤ 10)
    (q : ∀ cs, Cts cs → K (.own (.list (ofInts cs)))) : wpCall tab (n + 3) false f [.d (.list (ofInts sc)), .d (.int fi), .d (.int mo)] K X := by
  refine wpCall_in h rfl (by decide) ?_
  dsimp only [f__law_drawn, b__law_drawn, wpSs, wpS, wpE, wpEs, wpAnd, wpOr, wpC, wpSrc, wpSrcL, slot, F1.quiet, Ty.has, keepAll, partsF, frz, bindF, isNon, setAll, okRet, r_got, r_rd_d, r_rd_own, r_rd_brw, r_rd_ot, r_nm_d, r_nm_own, r_nm_brw, r_nm_exc, r_nm_ot, r_arg_d, r_arg_own, r_arg_brw, r_arg_exc, r_arg_ot, r_keep_d, r_keep_ownt, r_keep_ownf, r_keep_ott, r_keep_otf, r_kp_d, r_kp_own, r_kp_ot, r_ret_d, r_ret_own, r_ret_ot, r_ifB, r_add, r_sub, r_lt, r_le, r_gt, r_ge, r_not, r_int, r_isi_int_d, r_isi_bool_d, r_isi_list_d, r_isi_tuple_d, r_isi_int_own, r_isi_bool_own, r_isi_list_own, r_isi_tuple_own, r_isi_int_brw, r_isi_bool_brw, r_isi_list_brw, r_isi_tuple_brw, r_isi_exc, r_isi_val, r_isNone_d, r_isNone_own, r_max2, r_min2, r_ls_d, r_ls_own, r_low_int, r_pf_own, r_pf_d, r_it_d, r_it_own, r_it_dt, r_it_brw, numW, qW, q2W, d_map0, d_map1, d_app0, d_app1, d_get0, d_get1, d_set0, d_set1, d_rep0, d_rep1, d_len0, d_len1, d_omap, d_obind, d_ct, d_cf, d_nt, d_nf, d_fand, d_tand, d_op, Nat.reduceSub, Nat.reduceAdd]
  refine web_spec hw hc hx sc hs hb fi mo hfi hm0 hm1 fun sz ts s0 s1 wok => ?_
  rw [r_pv2]
  dsimp only [wpSs, wpS, wpE, wpEs, wpAnd, wpOr, wpC, wpSrc, wpSrcL, slot, F1.quiet, Ty.has, keepAll, partsF, frz, bindF, isNon, setAll, okRet, r_got, r_rd_d, r_rd_own, r_rd_brw, r_rd_ot, r_nm_d, r_nm_own, r_nm_brw, r_nm_exc, r_nm_ot, r_arg_d, r_arg_own, r_arg_brw, r_arg_exc, r_arg_ot, r_keep_d, r_keep_ownt, r_keep_ownf, r_keep_ott, r_keep_otf, r_kp_d, r_kp_own, r_kp_ot, r_ret_d, r_ret_own, r_ret_ot, r_ifB, r_add, r_sub, r_lt, r_le, r_gt, r_ge, r_not, r_int, r_isi_int_d, r_isi_bool_d, r_isi_list_d, r_isi_tuple_d, r_isi_int_own, r_isi_bool_own, r_isi_list_own, r_isi_tuple_own, r_isi_int_brw, r_isi_bool_brw, r_isi_list_brw, r_isi_tuple_brw, r_isi_exc, r_isi_val, r_isNone_d, r_isNone_own, r_max2, r_min2, r_ls_d, r_ls_own, r_low_int, r_pf_own, r_pf_d, r_it_d, r_it_own, r_it_dt, r_it_brw, numW, qW, q2W, d_map0, d_map1, d_app0, d_app1, d_get0, d_get1, d_set0, d_set1, d_rep0, d_rep1, d_len0, d_len1, d_omap, d_obind, d_ct, d_cf, d_nt, d_nf, d_fand, d_tand, d_op, Nat.reduceSub, Nat.reduceAdd]
  refine counts_spec hco sz (by omega) ts (by have := wok.length (by omega); omega) ?_
  dsimp only [wpSs, wpS, wpE, wpEs, wpAnd, wpOr, wpC, wpSrc, wpSrcL, slot, F1.quiet, Ty.has, keepAll, partsF, frz, bindF, isNon, setAll, okRet, r_got, r_rd_d, r_rd_own, r_rd_brw, r_rd_ot, r_nm_d, r_nm_own, r_nm_brw, r_nm_exc, r_nm_ot, r_arg_d, r_arg_own, r_arg_brw, r_arg_exc, r_arg_ot, r_keep_d, r_keep_ownt, r_keep_ownf, r_keep_ott, r_keep_otf, r_kp_d, r_kp_own, r_kp_ot, r_ret_d, r_ret_own, r_ret_ot, r_ifB, r_add, r_sub, r_lt, r_le, r_gt, r_ge, r_not, r_int, r_isi_int_d, r_isi_bool_d, r_isi_list_d, r_isi_tuple_d, r_isi_int_own, r_isi_bool_own, r_isi_list_own, r_isi_tuple_own, r_isi_int_brw, r_isi_bool_brw, r_isi_list_brw, r_isi_tuple_brw, r_isi_exc, r_isi_val, r_isNone_d, r_isNone_own, r_max2, r_min2, r_ls_d, r_ls_own, r_low_int, r_pf_own, r_pf_d, r_it_d, r_it_own, r_it_dt, r_it_brw, numW, qW, q2W, d_map0, d_map1, d_app0, d_app1, d_get0, d_get1, d_set0, d_set1, d_rep0, d_rep1, d_len0, d_len1, d_omap, d_obind, d_ct, d_cf, d_nt, d_nf, d_fand, d_tand, d_op, Nat.reduceSub, Nat.reduceAdd]
  refine cell_spec hc sc (fi + 7 : Int) hs (by omega) (by omega) ?_
  have hch := cell_sml hb (fi + 7 : Int)
  generalize cellAt sc (fi + 7 : Int) = ch at *
  have x0 := fmod_nonneg' (a := ch) (b := 4) (by omega)
  have x1 := fmod_lt' (a := ch) (b := 4) (by omega)
  have ct := wok.cts s0 (by omega)
  have ln : (ctL sz ts).length = sz := by simp [ctL]
  dsimp only [wpSs, wpS, wpE, wpEs, wpAnd, wpOr, wpC, wpSrc, wpSrcL, slot, F1.quiet, Ty.has, keepAll, partsF, frz, bindF, isNon, setAll, okRet, r_got, r_rd_d, r_rd_own, r_rd_brw, r_rd_ot, r_nm_d, r_nm_own, r_nm_brw, r_nm_exc, r_nm_ot, r_arg_d, r_arg_own, r_arg_brw, r_arg_exc, r_arg_ot, r_keep_d, r_keep_ownt, r_keep_ownf, r_keep_ott, r_keep_otf, r_kp_d, r_kp_own, r_kp_ot, r_ret_d, r_ret_own, r_ret_ot, r_ifB, r_add, r_sub, r_lt, r_le, r_gt, r_ge, r_not, r_int, r_isi_int_d, r_isi_bool_d, r_isi_list_d, r_isi_tuple_d, r_isi_int_own, r_isi_bool_own, r_isi_list_own, r_isi_tuple_own, r_isi_int_brw, r_isi_bool_brw, r_isi_list_brw, r_isi_tuple_brw, r_isi_exc, r_isi_val, r_isNone_d, r_isNone_own, r_max2, r_min2, r_ls_d, r_ls_own, r_low_int, r_pf_own, r_pf_d, r_it_d, r_it_own, r_it_dt, r_it_brw, numW, qW, q2W, d_map0, d_map1, d_app0, d_app1, d_get0, d_get1, d_set0, d_set1, d_rep0, d_rep1, d_len0, d_len1, d_omap, d_obind, d_ct, d_cf, d_nt, d_nf, d_fand, d_tand, d_op, Nat.reduceSub, Nat.reduceAdd]
  refine ⟨by decide, ifB_by (fun _ => q _ ct) fun c0 => ⟨by decide, ifB_by (fun c3 => ?_) fun c3 => ?_⟩⟩
  · have y0 := fmod_nonneg' (a := ch.fdiv 4) (b := 4) (by omega)
    have y1 := fmod_lt' (a := ch.fdiv 4) (b := 4) (by omega)
    refine ⟨⟨by decide, by decide⟩, by decide, ?_⟩
    generalize (ch.fdiv 4).fmod 4 = r at *
    obtain ⟨top, ht, h1, h2⟩ : ∃ top : Int, ([PyData.int sz, PyData.int (sz + 2), PyData.int 21, PyData.int 3] : List PyData)[r.toNat]? = some (.int top) ∧ 0 < top ∧ top ≤ 21 := by
      have kk : r = 0 ∨ r = 1 ∨ r = 2 ∨ r = 3 := by omega
      rcases kk with rfl | rfl | rfl | rfl
      · exact ⟨sz, rfl, by omega, by omega⟩
      · exact ⟨sz + 2, rfl, by omega, by omega⟩
      · exact ⟨21, rfl, by omega, by omega⟩
      · exact ⟨3, rfl, by omega, by omega⟩
    rw [r_idx_ownl y0 (by omega), ht]
    refine ⟨rfl, by rw [lim_eq]; omega, by rw [lim_eq]; omega, ?_⟩
    refine compW_map (fun v => match v with | .d (.int p) => .int ((mixed ch p).fmod top) | _ => .none) _ _ (fun x hx' k hk => ?_) ?_ ?_
    · obtain ⟨p, hp, rfl⟩ := List.mem_map.mp hx'
      obtain ⟨p, hp2, rfl⟩ := List.mem_map.mp hp
      have := List.mem_range.mp hp2
      simp only [Int.zero_add] at hk ⊢
      dsimp only [wpSs, wpS, wpE, wpEs, wpAnd, wpOr, wpC, wpSrc, wpSrcL, slot, F1.quiet, Ty.has, keepAll, partsF, frz, bindF, isNon, setAll, okRet, r_got, r_rd_d, r_rd_own, r_rd_brw, r_rd_ot, r_nm_d, r_nm_own, r_nm_brw, r_nm_exc, r_nm_ot, r_arg_d, r_arg_own, r_arg_brw, r_arg_exc, r_arg_ot, r_keep_d, r_keep_ownt, r_keep_ownf, r_keep_ott, r_keep_otf, r_kp_d, r_kp_own, r_kp_ot, r_ret_d, r_ret_own, r_ret_ot, r_ifB, r_add, r_sub, r_lt, r_le, r_gt, r_ge, r_not, r_int, r_isi_int_d, r_isi_bool_d, r_isi_list_d, r_isi_tuple_d, r_isi_int_own, r_isi_bool_own, r_isi_list_own, r_isi_tuple_own, r_isi_int_brw, r_isi_bool_brw, r_isi_list_brw, r_isi_tuple_brw, r_isi_exc, r_isi_val, r_isNone_d, r_isNone_own, r_max2, r_min2, r_ls_d, r_ls_own, r_low_int, r_pf_own, r_pf_d, r_it_d, r_it_own, r_it_dt, r_it_brw, numW, qW, q2W, d_map0, d_map1, d_app0, d_app1, d_get0, d_get1, d_set0, d_set1, d_rep0, d_rep1, d_len0, d_len1, d_omap, d_obind, d_ct, d_cf, d_nt, d_nf, d_fand, d_tand, d_op, Nat.reduceSub, Nat.reduceAdd]
      refine mixed_spec hx ch p (mulOk_small hch (by omega)) ?_
      exact ⟨(by omega : top ≠ 0), hk⟩
    · rw [List.nil_append, List.length_map, List.length_map, rngL_length, lim_eq]; omega
    · rw [List.nil_append]
      have e : List.map (fun v => match v with | V.d (PyData.int p) => PyData.int ((mixed ch p).fmod top) | _ => PyData.none) (List.map (fun i => V.d (PyData.int i)) (rangeL 0 (sz : Int))) = ofInts ((rangeL 0 (sz : Int)).map fun p => (mixed ch p).fmod top) := by
        unfold ofInts; simp [Function.comp_def]
      rw [e]
      refine q _ ⟨by rw [List.length_map, rngL_length]; omega, by rw [List.length_map, rngL_length]; omega, fun c hc => ?_⟩
      obtain ⟨p, hp, rfl⟩ := List.mem_map.mp hc
      have := fmod_nonneg' (a := mixed ch p) h1
      have := fmod_lt' (a := mixed ch p) h1
      omega
  refine ⟨by decide, rfl, by rw [lim_eq]; omega, by rw [lim_eq]; omega, ?_⟩
  refine forW_idx _ (fun i ρ => ∃ cs a8 a9, ρ = [some (V.d (PyData.list (ofInts sc))), some (V.d (PyData.int fi)), some (V.d (PyData.int mo)), some (V.d (PyData.int sz)), some (V.d (PyData.list (ofPairs ts))), some (V.own (PyData.list (ofInts cs))), some (V.d (PyData.int ch)), none, a8, a9] ∧ cs.length = sz ∧ Cts cs) ?_ ?_ _ ⟨_, none, none, rfl, ln, ct⟩
  · rintro ρ ⟨cs, a8, a9, rfl, ln, ct⟩
    exact q _ ct
  · rintro i hi ρ k ⟨cs, a8, a9, rfl, ln, ct⟩ cont _
    have hi' : i < 4 := by rw [List.length_map, rngL_length] at hi; omega
    rw [List.getElem_map, rngL_get]
    have y0 := fmod_nonneg' (a := ch.fdiv (4 + i)) (b := sz) (by omega)
    have y1 := fmod_lt' (a := ch.fdiv (4 + i)) (b := sz) (by omega)
    have w0 := fmod_nonneg' (a := ch.fdiv (40 + i)) (b := 4) (by omega)
    have w1 := fmod_lt' (a := ch.fdiv (40 + i)) (b := 4) (by omega)
    dsimp only [b__law_drawn_1, wpSs, wpS, wpE, wpEs, wpAnd, wpOr, wpC, wpSrc, wpSrcL, slot, F1.quiet, Ty.has, keepAll, partsF, frz, bindF, isNon, setAll, okRet, r_got, r_rd_d, r_rd_own, r_rd_brw, r_rd_ot, r_nm_d, r_nm_own, r_nm_brw, r_nm_exc, r_nm_ot, r_arg_d, r_arg_own, r_arg_brw, r_arg_exc, r_arg_ot, r_keep_d, r_keep_ownt, r_keep_ownf, r_keep_ott, r_keep_otf, r_kp_d, r_kp_own, r_kp_ot, r_ret_d, r_ret_own, r_ret_ot, r_ifB, r_add, r_sub, r_lt, r_le, r_gt, r_ge, r_not, r_int, r_isi_int_d, r_isi_bool_d, r_isi_list_d, r_isi_tuple_d, r_isi_int_own, r_isi_bool_own, r_isi_list_own, r_isi_tuple_own, r_isi_int_brw, r_isi_bool_brw, r_isi_list_brw, r_isi_tuple_brw, r_isi_exc, r_isi_val, r_isNone_d, r_isNone_own, r_max2, r_min2, r_ls_d, r_ls_own, r_low_int, r_pf_own, r_pf_d, r_it_d, r_it_own, r_it_dt, r_it_brw, numW, qW, q2W, d_map0, d_map1, d_app0, d_app1, d_get0, d_get1, d_set0, d_set1, d_rep0, d_rep1, d_len0, d_len1, d_omap, d_obind, d_ct, d_cf, d_nt, d_nf, d_fand, d_tand, d_op, Nat.reduceSub, Nat.reduceAdd]
    refine ⟨⟨by omega, by omega⟩, by omega, ?_⟩
    generalize (ch.fdiv (4 + i)).fmod sz = at_ at *
    have lt : at_.toNat < cs.length := by omega
    have e1 : (ofInts cs)[at_.toNat]? = some (.int cs[at_.toNat]) := by rw [getElem?_ofInts, List.getElem?_eq_getElem lt]; rfl
    rw [r_idx_brwl y0 (by omega), e1]
    refine ⟨⟨by omega, by omega⟩, by decide, ?_⟩
    dsimp only [wpSs, wpS, wpE, wpEs, wpAnd, wpOr, wpC, wpSrc, wpSrcL, slot, F1.quiet, Ty.has, keepAll, partsF, frz, bindF, isNon, setAll, okRet, r_got, r_rd_d, r_rd_own, r_rd_brw, r_rd_ot, r_nm_d, r_nm_own, r_nm_brw, r_nm_exc, r_nm_ot, r_arg_d, r_arg_own, r_arg_brw, r_arg_exc, r_arg_ot, r_keep_d, r_keep_ownt, r_keep_ownf, r_keep_ott, r_keep_otf, r_kp_d, r_kp_own, r_kp_ot, r_ret_d, r_ret_own, r_ret_ot, r_ifB, r_add, r_sub, r_lt, r_le, r_gt, r_ge, r_not, r_int, r_isi_int_d, r_isi_bool_d, r_isi_list_d, r_isi_tuple_d, r_isi_int_own, r_isi_bool_own, r_isi_list_own, r_isi_tuple_own, r_isi_int_brw, r_isi_bool_brw, r_isi_list_brw, r_isi_tuple_brw, r_isi_exc, r_isi_val, r_isNone_d, r_isNone_own, r_max2, r_min2, r_ls_d, r_ls_own, r_low_int, r_pf_own, r_pf_d, r_it_d, r_it_own, r_it_dt, r_it_brw, numW, qW, q2W, d_map0, d_map1, d_app0, d_app1, d_get0, d_get1, d_set0, d_set1, d_rep0, d_rep1, d_len0, d_len1, d_omap, d_obind, d_ct, d_cf, d_nt, d_nf, d_fand, d_tand, d_op, Nat.reduceSub, Nat.reduceAdd]
    generalize (ch.fdiv (40 + i)).fmod 4 = r at *
    obtain ⟨dl, ht⟩ : ∃ dl : Int, ([PyData.int 1, PyData.int (-1), PyData.int 2, PyData.int 1] : List PyData)[r.toNat]? = some (.int dl) := by
      have kk : r = 0 ∨ r = 1 ∨ r = 2 ∨ r = 3 := by omega
      rcases kk with rfl | rfl | rfl | rfl
      · exact ⟨1, rfl⟩
      · exact ⟨-1, rfl⟩
      · exact ⟨2, rfl⟩
      · exact ⟨1, rfl⟩
    rw [r_idx_ownl w0 (by omega), ht]
    refine ⟨y0, by rw [length_ofInts]; omega, by rw [lim_eq]; omega, ?_⟩
    dsimp only [wpSs, wpS, wpE, wpEs, wpAnd, wpOr, wpC, wpSrc, wpSrcL, slot, F1.quiet, Ty.has, keepAll, partsF, frz, bindF, isNon, setAll, okRet, r_got, r_rd_d, r_rd_own, r_rd_brw, r_rd_ot, r_nm_d, r_nm_own, r_nm_brw, r_nm_exc, r_nm_ot, r_arg_d, r_arg_own, r_arg_brw, r_arg_exc, r_arg_ot, r_keep_d, r_keep_ownt, r_keep_ownf, r_keep_ott, r_keep_otf, r_kp_d, r_kp_own, r_kp_ot, r_ret_d, r_ret_own, r_ret_ot, r_ifB, r_add, r_sub, r_lt, r_le, r_gt, r_ge, r_not, r_int, r_isi_int_d, r_isi_bool_d, r_isi_list_d, r_isi_tuple_d, r_isi_int_own, r_isi_bool_own, r_isi_list_own, r_isi_tuple_own, r_isi_int_brw, r_isi_bool_brw, r_isi_list_brw, r_isi_tuple_brw, r_isi_exc, r_isi_val, r_isNone_d, r_isNone_own, r_max2, r_min2, r_ls_d, r_ls_own, r_low_int, r_pf_own, r_pf_d, r_it_d, r_it_own, r_it_dt, r_it_brw, numW, qW, q2W, d_map0, d_map1, d_app0, d_app1, d_get0, d_get1, d_set0, d_set1, d_rep0, d_rep1, d_len0, d_len1, d_omap, d_obind, d_ct, d_cf, d_nt, d_nf, d_fand, d_tand, d_op, Nat.reduceSub, Nat.reduceAdd]
    rw [ofInts_set]
    refine cont _ ⟨_, _, _, rfl, by rw [List.length_set]; exact ln, by rw [List.length_set]; exact ct.1, by rw [List.length_set]; exact ct.2.1, fun c hc => ?_⟩
    rcases List.mem_or_eq_of_mem_set hc with h | rfl
    · exact ct.2.2 c h
    · omega
end
end TC

namespace TC
open PySem
section
variable {tab : List Fn} {n f : Nat} {hm : Bool} {K : V → Prop} {X : Nat → Prop}

/-! sorting -/
theorem leTrans (a b c : Int) : decide (a ≤ b) = true → decide (b ≤ c) = true → decide (a ≤ c) = true := by simp only [decide_eq_true_eq]; omega
theorem leTotal (a b : Int) : (decide (a ≤ b) || decide (b ≤ a)) = true := by simp only [Bool.or_eq_true, decide_eq_true_eq]; omega
theorem srt_perm (xs : List Int) : List.Perm (sortI xs) xs := List.mergeSort_perm ..
theorem srt_sorted (xs : List Int) : List.Pairwise (fun a b => a ≤ b) (sortI xs) := by
  have := List.pairwise_mergeSort leTrans leTotal xs
  exact this.imp (by simp)
theorem sorted_unique : ∀ {a b : List Int}, List.Perm a b → List.Pairwise (fun x y => x ≤ y) a → List.Pairwise (fun x y => x ≤ y) b → a = b
  | [], b, p, _, _ => (List.Perm.nil_eq p)
  | x :: a, [], p, _, _ => by simpa using p.length_eq
  | x :: a, y :: b, p, ha, hb => by
    have e : x = y := by
      have h1 : x ∈ y :: b := p.mem_iff.mp (.head _)
      have h2 : y ∈ x :: a := p.mem_iff.mpr (.head _)
      rcases List.mem_cons.mp h1 with h1 | h1
      · exact h1
      · rcases List.mem_cons.mp h2 with h2 | h2
        · exact h2.symm
        · have := (List.pairwise_cons.mp ha).1 y h2
          have := (List.pairwise_cons.mp hb).1 x h1
          omega
    subst e
    rw [sorted_unique (List.perm_cons x |>.mp p) (List.pairwise_cons.mp ha).2 (List.pairwise_cons.mp hb).2]
/-- greatest first -/
noncomputable def down (xs : List Int) : List Int := (sortI xs).reverse
theorem down_perm (xs : List Int) : List.Perm (down xs) xs := (List.reverse_perm _).trans (srt_perm xs)
theorem down_of {xs ys : List Int} (p : List.Perm ys xs) (h : List.Pairwise (fun x y => x ≥ y) ys) : down xs = ys := by
  have : sortI xs = ys.reverse := sorted_unique ((srt_perm xs).trans (p.symm.trans (List.reverse_perm _).symm)) (srt_sorted xs) (by rw [List.pairwise_reverse]; exact h)
  unfold down; rw [this, List.reverse_reverse]
theorem down_sorted (xs : List Int) : List.Pairwise (fun x y => x ≥ y) (down xs) := by unfold down; rw [List.pairwise_reverse]; exact srt_sorted xs
theorem down_length (xs : List Int) : (down xs).length = xs.length := (down_perm xs).length_eq
theorem foldlMax : ∀ (l : List Int) (a : Int), a ≤ l.foldl max a ∧ (∀ x ∈ l, x ≤ l.foldl max a) ∧ (l.foldl max a = a ∨ l.foldl max a ∈ l)
  | [], a => ⟨Int.le_refl _, (fun _ h => by cases h), .inl rfl⟩
  | b :: l, a => by
    obtain ⟨h1, h2, h3⟩ := foldlMax l (max a b)
    simp only [List.foldl_cons]
    refine ⟨by omega, fun x hx => ?_, ?_⟩
    · rcases List.mem_cons.mp hx with rfl | hx
      · omega
      · exact h2 x hx
    · rcases h3 with h3 | h3
      · rw [h3]
        by_cases c : a ≤ b
        · right; rw [show max a b = b by omega]; exact .head _
        · left; omega
      · right; exact .tail _ h3
theorem maxL_is {xs : List Int} (h : xs ≠ []) : ∃ m, maxL xs = some m ∧ m ∈ xs ∧ ∀ x ∈ xs, x ≤ m := by
  cases xs with
  | nil => exact absurd rfl h
  | cons a l =>
    obtain ⟨h1, h2, h3⟩ := foldlMax l a
    refine ⟨_, rfl, ?_, fun x hx => ?_⟩
    · rcases h3 with h3 | h3
      · rw [h3]; exact .head _
      · exact .tail _ h3
    · rcases List.mem_cons.mp hx with rfl | hx
      · exact h1
      · exact h2 x hx
theorem down_max {xs : List Int} {m : Int} (h1 : m ∈ xs) (h2 : ∀ x ∈ xs, x ≤ m) : down xs = m :: down (xs.erase m) := by
  refine down_of ((List.Perm.cons m (down_perm _)).trans (List.perm_cons_erase h1).symm) (List.pairwise_cons.mpr ⟨fun y hy => ?_, down_sorted _⟩)
  exact h2 y (List.mem_of_mem_erase ((down_perm _).mem_iff.mp hy))

theorem perm_sum {a b : List Int} (p : List.Perm a b) : a.sum = b.sum := by
  induction p with
  | nil => rfl
  | cons x _ ih => simp [ih]
  | swap x y l => simp; omega
  | trans _ _ h1 h2 => exact h1.trans h2
theorem sum_ints (xs : List Int) : F1.ev .sum (.own (.list (ofInts xs))) = some (.d (.int xs.sum)) := by
  show (intsOf (ofInts xs)).map (fun is => V.d (.int is.sum)) = _
  rw [ofInts_ints]; rfl
theorem sum_intsd (xs : List Int) : F1.ev .sum (.d (.list (ofInts xs))) = some (.d (.int xs.sum)) := by
  show (intsOf (ofInts xs)).map (fun is => V.d (.int is.sum)) = _
  rw [ofInts_ints]; rfl
theorem sortR_ints {xs : List Int} (h : xs.length < 64) : F1.ev .sortedR (.d (.list (ofInts xs))) = some (.own (.list (ofInts (down xs)))) := by
  show ((intsOf (ofInts xs)).bind fun is => if is.length < 64 then some (V.own (.list (ofInts (sortI is).reverse))) else none) = _
  rw [ofInts_ints]; exact if_pos h
noncomputable def wantA (cs : List Int) (k : Nat) : Int := ((down cs).take k).sum
noncomputable def wantB (cs : List Int) (k : Nat) : Int := k * (k - 1) + (((down cs).drop k).map fun c => min c (k : Int)).sum
theorem want_of_spec (h : tab[f]? = some f_want_of) (cs : List Int) (hl : cs.length < 64) (k : Nat) (hk : k < 64) (q : K (.ot [(false, .int (wantA cs k)), (false, .int (wantB cs k))])) : wpCall tab (n + 1) false f [.d (.list (ofInts cs)), .d (.int k)] K X := by
  have l1 : (ofInts (down cs)).length < lim := by rw [length_ofInts, down_length, lim_eq]; omega
  have kl : (k : Int) < lim := by rw [lim_eq]; omega
  refine wpCall_in h rfl (by decide) ?_
  dsimp only [f_want_of, b_want_of, wpSs, wpS, wpE, wpEs, wpAnd, wpOr, wpC, wpSrc, wpSrcL, slot, F1.quiet, Ty.has, keepAll, partsF, frz, bindF, isNon, setAll, okRet, r_got, r_rd_d, r_rd_own, r_rd_brw, r_rd_ot, r_nm_d, r_nm_own, r_nm_brw, r_nm_exc, r_nm_ot, r_arg_d, r_arg_own, r_arg_brw, r_arg_exc, r_arg_ot, r_keep_d, r_keep_ownt, r_keep_ownf, r_keep_ott, r_keep_otf, r_kp_d, r_kp_own, r_kp_ot, r_ret_d, r_ret_own, r_ret_ot, r_ifB, r_add, r_sub, r_lt, r_le, r_gt, r_ge, r_not, r_int, r_isi_int_d, r_isi_bool_d, r_isi_list_d, r_isi_tuple_d, r_isi_int_own, r_isi_bool_own, r_isi_list_own, r_isi_tuple_own, r_isi_int_brw, r_isi_bool_brw, r_isi_list_brw, r_isi_tuple_brw, r_isi_exc, r_isi_val, r_isNone_d, r_isNone_own, r_max2, r_min2, r_ls_d, r_ls_own, r_low_int, r_pf_own, r_pf_d, r_it_d, r_it_own, r_it_dt, r_it_brw, numW, qW, q2W, d_map0, d_map1, d_app0, d_app1, d_get0, d_get1, d_set0, d_set1, d_rep0, d_rep1, d_len0, d_len1, d_omap, d_obind, d_ct, d_cf, d_nt, d_nf, d_fand, d_tand, d_op, Nat.reduceSub, Nat.reduceAdd]
  rw [sortR_ints hl]
  dsimp only [wpSs, wpS, wpE, wpEs, wpAnd, wpOr, wpC, wpSrc, wpSrcL, slot, F1.quiet, Ty.has, keepAll, partsF, frz, bindF, isNon, setAll, okRet, r_got, r_rd_d, r_rd_own, r_rd_brw, r_rd_ot, r_nm_d, r_nm_own, r_nm_brw, r_nm_exc, r_nm_ot, r_arg_d, r_arg_own, r_arg_brw, r_arg_exc, r_arg_ot, r_keep_d, r_keep_ownt, r_keep_ownf, r_keep_ott, r_keep_otf, r_kp_d, r_kp_own, r_kp_ot, r_ret_d, r_ret_own, r_ret_ot, r_ifB, r_add, r_sub, r_lt, r_le, r_gt, r_ge, r_not, r_int, r_isi_int_d, r_isi_bool_d, r_isi_list_d, r_isi_tuple_d, r_isi_int_own, r_isi_bool_own, r_isi_list_own, r_isi_tuple_own, r_isi_int_brw, r_isi_bool_brw, r_isi_list_brw, r_isi_tuple_brw, r_isi_exc, r_isi_val, r_isNone_d, r_isNone_own, r_max2, r_min2, r_ls_d, r_ls_own, r_low_int, r_pf_own, r_pf_d, r_it_d, r_it_own, r_it_dt, r_it_brw, numW, qW, q2W, d_map0, d_map1, d_app0, d_app1, d_get0, d_get1, d_set0, d_set1, d_rep0, d_rep1, d_len0, d_len1, d_omap, d_obind, d_ct, d_cf, d_nt, d_nf, d_fand, d_tand, d_op, Nat.reduceSub, Nat.reduceAdd]
  rw [r_from (r_ls_d (ofInts (down cs))) (Int.natCast_nonneg k) kl l1, ofInts_drop, Int.toNat_natCast]
  dsimp only [wpSs, wpS, wpE, wpEs, wpAnd, wpOr, wpC, wpSrc, wpSrcL, slot, F1.quiet, Ty.has, keepAll, partsF, frz, bindF, isNon, setAll, okRet, r_got, r_rd_d, r_rd_own, r_rd_brw, r_rd_ot, r_nm_d, r_nm_own, r_nm_brw, r_nm_exc, r_nm_ot, r_arg_d, r_arg_own, r_arg_brw, r_arg_exc, r_arg_ot, r_keep_d, r_keep_ownt, r_keep_ownf, r_keep_ott, r_keep_otf, r_kp_d, r_kp_own, r_kp_ot, r_ret_d, r_ret_own, r_ret_ot, r_ifB, r_add, r_sub, r_lt, r_le, r_gt, r_ge, r_not, r_int, r_isi_int_d, r_isi_bool_d, r_isi_list_d, r_isi_tuple_d, r_isi_int_own, r_isi_bool_own, r_isi_list_own, r_isi_tuple_own, r_isi_int_brw, r_isi_bool_brw, r_isi_list_brw, r_isi_tuple_brw, r_isi_exc, r_isi_val, r_isNone_d, r_isNone_own, r_max2, r_min2, r_ls_d, r_ls_own, r_low_int, r_pf_own, r_pf_d, r_it_d, r_it_own, r_it_dt, r_it_brw, numW, qW, q2W, d_map0, d_map1, d_app0, d_app1, d_get0, d_get1, d_set0, d_set1, d_rep0, d_rep1, d_len0, d_len1, d_omap, d_obind, d_ct, d_cf, d_nt, d_nf, d_fand, d_tand, d_op, Nat.reduceSub, Nat.reduceAdd]
  refine ⟨by rw [List.length_map, length_ofInts, List.length_drop, down_length, lim_eq]; omega, ?_⟩
  refine compW_map (fun v => match v with | .d (.int c) => .int (min c k) | _ => .none) _ _ (fun x hx k hk => ?_) ?_ ?_
  · obtain ⟨p, hp, rfl⟩ := List.mem_map.mp hx
    obtain ⟨p, hp2, rfl⟩ := List.mem_map.mp hp
    exact hk
  · rw [List.nil_append, List.length_map, List.length_map, length_ofInts, List.length_drop, down_length, lim_eq]; omega
  · rw [List.nil_append]
    have e : List.map (fun v => match v with | V.d (PyData.int c) => PyData.int (min c k) | _ => PyData.none) (List.map V.d (ofInts ((down cs).drop k))) = ofInts (((down cs).drop k).map fun c => min c (k : Int)) := by
      unfold ofInts; simp [Function.comp_def]
    rw [e]
    dsimp only [wpSs, wpS, wpE, wpEs, wpAnd, wpOr, wpC, wpSrc, wpSrcL, slot, F1.quiet, Ty.has, keepAll, partsF, frz, bindF, isNon, setAll, okRet, r_got, r_rd_d, r_rd_own, r_rd_brw, r_rd_ot, r_nm_d, r_nm_own, r_nm_brw, r_nm_exc, r_nm_ot, r_arg_d, r_arg_own, r_arg_brw, r_arg_exc, r_arg_ot, r_keep_d, r_keep_ownt, r_keep_ownf, r_keep_ott, r_keep_otf, r_kp_d, r_kp_own, r_kp_ot, r_ret_d, r_ret_own, r_ret_ot, r_ifB, r_add, r_sub, r_lt, r_le, r_gt, r_ge, r_not, r_int, r_isi_int_d, r_isi_bool_d, r_isi_list_d, r_isi_tuple_d, r_isi_int_own, r_isi_bool_own, r_isi_list_own, r_isi_tuple_own, r_isi_int_brw, r_isi_bool_brw, r_isi_list_brw, r_isi_tuple_brw, r_isi_exc, r_isi_val, r_isNone_d, r_isNone_own, r_max2, r_min2, r_ls_d, r_ls_own, r_low_int, r_pf_own, r_pf_d, r_it_d, r_it_own, r_it_dt, r_it_brw, numW, qW, q2W, d_map0, d_map1, d_app0, d_app1, d_get0, d_get1, d_set0, d_set1, d_rep0, d_rep1, d_len0, d_len1, d_omap, d_obind, d_ct, d_cf, d_nt, d_nf, d_fand, d_tand, d_op, Nat.reduceSub, Nat.reduceAdd]
    rw [r_to (r_ls_d (ofInts (down cs))) (Int.natCast_nonneg k) kl l1, ofInts_take, Int.toNat_natCast]
    dsimp only [wpSs, wpS, wpE, wpEs, wpAnd, wpOr, wpC, wpSrc, wpSrcL, slot, F1.quiet, Ty.has, keepAll, partsF, frz, bindF, isNon, setAll, okRet, r_got, r_rd_d, r_rd_own, r_rd_brw, r_rd_ot, r_nm_d, r_nm_own, r_nm_brw, r_nm_exc, r_nm_ot, r_arg_d, r_arg_own, r_arg_brw, r_arg_exc, r_arg_ot, r_keep_d, r_keep_ownt, r_keep_ownf, r_keep_ott, r_keep_otf, r_kp_d, r_kp_own, r_kp_ot, r_ret_d, r_ret_own, r_ret_ot, r_ifB, r_add, r_sub, r_lt, r_le, r_gt, r_ge, r_not, r_int, r_isi_int_d, r_isi_bool_d, r_isi_list_d, r_isi_tuple_d, r_isi_int_own, r_isi_bool_own, r_isi_list_own, r_isi_tuple_own, r_isi_int_brw, r_isi_bool_brw, r_isi_list_brw, r_isi_tuple_brw, r_isi_exc, r_isi_val, r_isNone_d, r_isNone_own, r_max2, r_min2, r_ls_d, r_ls_own, r_low_int, r_pf_own, r_pf_d, r_it_d, r_it_own, r_it_dt, r_it_brw, numW, qW, q2W, d_map0, d_map1, d_app0, d_app1, d_get0, d_get1, d_set0, d_set1, d_rep0, d_rep1, d_len0, d_len1, d_omap, d_obind, d_ct, d_cf, d_nt, d_nf, d_fand, d_tand, d_op, Nat.reduceSub, Nat.reduceAdd]
    rw [sum_ints, sum_intsd]
    exact ⟨IntMulOk.of_left (intBits_le_64 (by omega) (by omega)), q⟩

theorem list_spec {xs : List PyData} (h : xs.length < lim) : F1.ev .list (.d (.list xs)) = some (.own (.list xs)) := if_pos h
theorem max_ints {xs : List Int} {m : Int} (h : maxL xs = some m) : F1.ev .max (.brw (.list (ofInts xs))) = some (.d (.int m)) := by
  show ((intsOf (ofInts xs)).bind fun is => (maxL is).map fun m => V.d (.int m)) = _
  rw [ofInts_ints, Option.bind_some, h]; rfl

theorem law_wanted_spec (h : tab[f]? = some f__law_wanted) (cs : List Int) (hl : cs.length < 64) (k : Nat) (hk : k ≤ cs.length) (q : K (.ot [(false, .int (wantA cs k)), (false, .int (wantB cs k))])) : wpCall tab (n + 1) false f [.d (.list (ofInts cs)), .d (.int k)] K X := by
  have l1 : (ofInts cs).length < lim := by rw [length_ofInts, lim_eq]; omega
  refine wpCall_in h rfl (by decide) ?_
  dsimp only [f__law_wanted, b__law_wanted, wpSs, wpS, wpE, wpEs, wpAnd, wpOr, wpC, wpSrc, wpSrcL, slot, F1.quiet, Ty.has, keepAll, partsF, frz, bindF, isNon, setAll, okRet, r_got, r_rd_d, r_rd_own, r_rd_brw, r_rd_ot, r_nm_d, r_nm_own, r_nm_brw, r_nm_exc, r_nm_ot, r_arg_d, r_arg_own, r_arg_brw, r_arg_exc, r_arg_ot, r_keep_d, r_keep_ownt, r_keep_ownf, r_keep_ott, r_keep_otf, r_kp_d, r_kp_own, r_kp_ot, r_ret_d, r_ret_own, r_ret_ot, r_ifB, r_add, r_sub, r_lt, r_le, r_gt, r_ge, r_not, r_int, r_isi_int_d, r_isi_bool_d, r_isi_list_d, r_isi_tuple_d, r_isi_int_own, r_isi_bool_own, r_isi_list_own, r_isi_tuple_own, r_isi_int_brw, r_isi_bool_brw, r_isi_list_brw, r_isi_tuple_brw, r_isi_exc, r_isi_val, r_isNone_d, r_isNone_own, r_max2, r_min2, r_ls_d, r_ls_own, r_low_int, r_pf_own, r_pf_d, r_it_d, r_it_own, r_it_dt, r_it_brw, numW, qW, q2W, d_map0, d_map1, d_app0, d_app1, d_get0, d_get1, d_set0, d_set1, d_rep0, d_rep1, d_len0, d_len1, d_omap, d_obind, d_ct, d_cf, d_nt, d_nf, d_fand, d_tand, d_op, Nat.reduceSub, Nat.reduceAdd]
  rw [list_spec l1]
  refine ⟨rfl, by rw [lim_eq]; omega, by rw [lim_eq]; omega, ?_⟩
  refine forW_idx _ (fun i ρ => ∃ ls a4 a5, ρ = [some (V.d (PyData.list (ofInts cs))), some (V.d (PyData.int k)), some (V.own (PyData.list (ofInts ls))), some (V.d (PyData.int (wantA cs i))), a4, a5, none, none] ∧ down ls = (down cs).drop i) ?_ ?_ _ ⟨cs, none, none, rfl, rfl⟩
  · rintro ρ ⟨ls, a4, a5, rfl, hd⟩
    rw [List.length_map, rngL_length, Int.toNat_natCast] at *
    have ll : ls.length ≤ cs.length := by rw [← down_length ls, hd, List.length_drop, down_length]; omega
    have l2 : ((ofInts ls).map V.d).length < lim := by rw [List.length_map, length_ofInts, lim_eq]; omega
    dsimp only [b__law_wanted_4, wpSs, wpS, wpE, wpEs, wpAnd, wpOr, wpC, wpSrc, wpSrcL, slot, F1.quiet, Ty.has, keepAll, partsF, frz, bindF, isNon, setAll, okRet, r_got, r_rd_d, r_rd_own, r_rd_brw, r_rd_ot, r_nm_d, r_nm_own, r_nm_brw, r_nm_exc, r_nm_ot, r_arg_d, r_arg_own, r_arg_brw, r_arg_exc, r_arg_ot, r_keep_d, r_keep_ownt, r_keep_ownf, r_keep_ott, r_keep_otf, r_kp_d, r_kp_own, r_kp_ot, r_ret_d, r_ret_own, r_ret_ot, r_ifB, r_add, r_sub, r_lt, r_le, r_gt, r_ge, r_not, r_int, r_isi_int_d, r_isi_bool_d, r_isi_list_d, r_isi_tuple_d, r_isi_int_own, r_isi_bool_own, r_isi_list_own, r_isi_tuple_own, r_isi_int_brw, r_isi_bool_brw, r_isi_list_brw, r_isi_tuple_brw, r_isi_exc, r_isi_val, r_isNone_d, r_isNone_own, r_max2, r_min2, r_ls_d, r_ls_own, r_low_int, r_pf_own, r_pf_d, r_it_d, r_it_own, r_it_dt, r_it_brw, numW, qW, q2W, d_map0, d_map1, d_app0, d_app1, d_get0, d_get1, d_set0, d_set1, d_rep0, d_rep1, d_len0, d_len1, d_omap, d_obind, d_ct, d_cf, d_nt, d_nf, d_fand, d_tand, d_op, Nat.reduceSub, Nat.reduceAdd]
    refine ⟨IntMulOk.of_left (intBits_le_64 (by omega) (by omega)), l2, ?_⟩
    have pe : List.Perm ls ((down cs).drop k) := hd ▸ (down_perm ls).symm
    refine forW_idx _ (fun i ρ => ∃ a7, ρ = [some (V.d (PyData.list (ofInts cs))), some (V.d (PyData.int k)), some (V.d (PyData.list (ofInts ls))), some (V.d (PyData.int (wantA cs k))), a4, a5, some (V.d (PyData.int (k * (k - 1) + ((ls.take i).map fun c => min c (k : Int)).sum))), a7]) ?_ ?_ _ ⟨none, by simp⟩
    · rintro ρ ⟨a7, rfl⟩
      have e : k * (k - 1) + ((ls.take ((ofInts ls).map V.d).length).map fun c => min c (k : Int)).sum = wantB cs k := by
        rw [List.length_map, length_ofInts, List.take_length]
        unfold wantB
        rw [perm_sum (pe.symm.map _)]
      rw [e]
      exact q
    · rintro i hi ρ kk ⟨a7, rfl⟩ cont _
      have hi' : i < ls.length := by rw [List.length_map, length_ofInts] at hi; exact hi
      rw [List.getElem_map, r_geti]
      have e : (ls.take (i + 1)).map (fun c => min c (k : Int)) = (ls.take i).map (fun c => min c (k : Int)) ++ [min ls[i] (k : Int)] := by
        rw [List.take_succ_eq_append_getElem hi', List.map_append]; rfl
      dsimp only [b__law_wanted_2, wpSs, wpS, wpE, wpEs, wpAnd, wpOr, wpC, wpSrc, wpSrcL, slot, F1.quiet, Ty.has, keepAll, partsF, frz, bindF, isNon, setAll, okRet, r_got, r_rd_d, r_rd_own, r_rd_brw, r_rd_ot, r_nm_d, r_nm_own, r_nm_brw, r_nm_exc, r_nm_ot, r_arg_d, r_arg_own, r_arg_brw, r_arg_exc, r_arg_ot, r_keep_d, r_keep_ownt, r_keep_ownf, r_keep_ott, r_keep_otf, r_kp_d, r_kp_own, r_kp_ot, r_ret_d, r_ret_own, r_ret_ot, r_ifB, r_add, r_sub, r_lt, r_le, r_gt, r_ge, r_not, r_int, r_isi_int_d, r_isi_bool_d, r_isi_list_d, r_isi_tuple_d, r_isi_int_own, r_isi_bool_own, r_isi_list_own, r_isi_tuple_own, r_isi_int_brw, r_isi_bool_brw, r_isi_list_brw, r_isi_tuple_brw, r_isi_exc, r_isi_val, r_isNone_d, r_isNone_own, r_max2, r_min2, r_ls_d, r_ls_own, r_low_int, r_pf_own, r_pf_d, r_it_d, r_it_own, r_it_dt, r_it_brw, numW, qW, q2W, d_map0, d_map1, d_app0, d_app1, d_get0, d_get1, d_set0, d_set1, d_rep0, d_rep1, d_len0, d_len1, d_omap, d_obind, d_ct, d_cf, d_nt, d_nf, d_fand, d_tand, d_op, Nat.reduceSub, Nat.reduceAdd]
      by_cases c : ls[i] < (k : Int)
      · rw [decide_eq_true c]
        rw [r_idx_ownl (by decide) (by decide)]
        refine cont _ ⟨some (V.d (.int ls[i])), ?_⟩
        rw [e, List.sum_append, ← Int.add_assoc]
        simp [show min ls[i] (k : Int) = ls[i] by omega, r_add]
      · rw [decide_eq_false c]
        rw [r_idx_ownl (by decide) (by decide)]
        refine cont _ ⟨some (V.d (.int ls[i])), ?_⟩
        rw [e, List.sum_append, ← Int.add_assoc]
        simp [show min ls[i] (k : Int) = k by omega]
  · rintro i hi ρ kk ⟨ls, a4, a5, rfl, hd⟩ cont _
    have hi' : i < k := by rw [List.length_map, rngL_length] at hi; omega
    have li : i < (down cs).length := by rw [down_length]; omega
    rw [List.getElem_map, rngL_get]
    have ne : ls ≠ [] := by
      rintro rfl
      have h1 : down ([] : List Int) = [] := by have := down_length []; exact List.length_eq_zero_iff.mp this
      rw [h1] at hd
      have := congrArg List.length hd
      rw [List.length_drop, down_length] at this
      simp at this; omega
    obtain ⟨m, e1, e2, e3⟩ := maxL_is ne
    have ll : ls.length ≤ cs.length := by rw [← down_length ls, hd, List.length_drop, down_length]; omega
    dsimp only [b__law_wanted_1, wpSs, wpS, wpE, wpEs, wpAnd, wpOr, wpC, wpSrc, wpSrcL, slot, F1.quiet, Ty.has, keepAll, partsF, frz, bindF, isNon, setAll, okRet, r_got, r_rd_d, r_rd_own, r_rd_brw, r_rd_ot, r_nm_d, r_nm_own, r_nm_brw, r_nm_exc, r_nm_ot, r_arg_d, r_arg_own, r_arg_brw, r_arg_exc, r_arg_ot, r_keep_d, r_keep_ownt, r_keep_ownf, r_keep_ott, r_keep_otf, r_kp_d, r_kp_own, r_kp_ot, r_ret_d, r_ret_own, r_ret_ot, r_ifB, r_add, r_sub, r_lt, r_le, r_gt, r_ge, r_not, r_int, r_isi_int_d, r_isi_bool_d, r_isi_list_d, r_isi_tuple_d, r_isi_int_own, r_isi_bool_own, r_isi_list_own, r_isi_tuple_own, r_isi_int_brw, r_isi_bool_brw, r_isi_list_brw, r_isi_tuple_brw, r_isi_exc, r_isi_val, r_isNone_d, r_isNone_own, r_max2, r_min2, r_ls_d, r_ls_own, r_low_int, r_pf_own, r_pf_d, r_it_d, r_it_own, r_it_dt, r_it_brw, numW, qW, q2W, d_map0, d_map1, d_app0, d_app1, d_get0, d_get1, d_set0, d_set1, d_rep0, d_rep1, d_len0, d_len1, d_omap, d_obind, d_ct, d_cf, d_nt, d_nf, d_fand, d_tand, d_op, Nat.reduceSub, Nat.reduceAdd]
    rw [max_ints e1]
    dsimp only [wpSs, wpS, wpE, wpEs, wpAnd, wpOr, wpC, wpSrc, wpSrcL, slot, F1.quiet, Ty.has, keepAll, partsF, frz, bindF, isNon, setAll, okRet, r_got, r_rd_d, r_rd_own, r_rd_brw, r_rd_ot, r_nm_d, r_nm_own, r_nm_brw, r_nm_exc, r_nm_ot, r_arg_d, r_arg_own, r_arg_brw, r_arg_exc, r_arg_ot, r_keep_d, r_keep_ownt, r_keep_ownf, r_keep_ott, r_keep_otf, r_kp_d, r_kp_own, r_kp_ot, r_ret_d, r_ret_own, r_ret_ot, r_ifB, r_add, r_sub, r_lt, r_le, r_gt, r_ge, r_not, r_int, r_isi_int_d, r_isi_bool_d, r_isi_list_d, r_isi_tuple_d, r_isi_int_own, r_isi_bool_own, r_isi_list_own, r_isi_tuple_own, r_isi_int_brw, r_isi_bool_brw, r_isi_list_brw, r_isi_tuple_brw, r_isi_exc, r_isi_val, r_isNone_d, r_isNone_own, r_max2, r_min2, r_ls_d, r_ls_own, r_low_int, r_pf_own, r_pf_d, r_it_d, r_it_own, r_it_dt, r_it_brw, numW, qW, q2W, d_map0, d_map1, d_app0, d_app1, d_get0, d_get1, d_set0, d_set1, d_rep0, d_rep1, d_len0, d_len1, d_omap, d_obind, d_ct, d_cf, d_nt, d_nf, d_fand, d_tand, d_op, Nat.reduceSub, Nat.reduceAdd]
    rw [ofInts_ints]
    refine ⟨e2, by rw [lim_eq]; omega, ?_⟩
    have hd2 := down_max e2 e3
    rw [hd, List.drop_eq_getElem_cons li] at hd2
    obtain ⟨h1, h2⟩ := List.cons.inj hd2
    have e4 : wantA cs i + m = wantA cs (i + 1) := by
      unfold wantA
      rw [List.take_succ_eq_append_getElem li, List.sum_append, h1]; simp
    rw [e4]
    exact cont _ ⟨ls.erase m, _, _, rfl, h2.symm⟩
end
end TC

namespace TC
open PySem
section
variable {tab : List Fn} {n f : Nat} {hm : Bool} {K : V → Prop} {X : Nat → Prop}

noncomputable def okC : PyData → Bool
  | .list xs => decide (1 ≤ xs.length) && decide (xs.length ≤ 10) && xs.all (amongB · 0 20)
  | _ => false
noncomputable def lenOk : PyData → Prop
  | .list xs => xs.length < lim
  | _ => True
theorem need_spec (h : tab[f]? = some f_need_counts) (ha : tab[0]? = some f_is_among) (x : PyData) (hx : lenOk x) (q : okC x = true → K (.d .none)) (r : okC x = false → X 1) : wpCall tab (n + 2) false f [.d x] K X := by
  refine wpCall_in h rfl (by decide) ?_
  cases x with
  | list xs =>
    have hx : xs.length < lim := hx
    dsimp only [f_need_counts, b_need_counts, wpSs, wpS, wpE, wpEs, wpAnd, wpOr, wpC, wpSrc, wpSrcL, slot, F1.quiet, Ty.has, keepAll, partsF, frz, bindF, isNon, setAll, okRet, r_got, r_rd_d, r_rd_own, r_rd_brw, r_rd_ot, r_nm_d, r_nm_own, r_nm_brw, r_nm_exc, r_nm_ot, r_arg_d, r_arg_own, r_arg_brw, r_arg_exc, r_arg_ot, r_keep_d, r_keep_ownt, r_keep_ownf, r_keep_ott, r_keep_otf, r_kp_d, r_kp_own, r_kp_ot, r_ret_d, r_ret_own, r_ret_ot, r_ifB, r_add, r_sub, r_lt, r_le, r_gt, r_ge, r_not, r_int, r_isi_int_d, r_isi_bool_d, r_isi_list_d, r_isi_tuple_d, r_isi_int_own, r_isi_bool_own, r_isi_list_own, r_isi_tuple_own, r_isi_int_brw, r_isi_bool_brw, r_isi_list_brw, r_isi_tuple_brw, r_isi_exc, r_isi_val, r_isNone_d, r_isNone_own, r_max2, r_min2, r_ls_d, r_ls_own, r_low_int, r_pf_own, r_pf_d, r_it_d, r_it_own, r_it_dt, r_it_brw, numW, qW, q2W, d_map0, d_map1, d_app0, d_app1, d_get0, d_get1, d_set0, d_set1, d_rep0, d_rep1, d_len0, d_len1, d_omap, d_obind, d_ct, d_cf, d_nt, d_nf, d_fand, d_tand, d_op, Nat.reduceSub, Nat.reduceAdd]
    rw [r_len_d hx]
    dsimp only [wpSs, wpS, wpE, wpEs, wpAnd, wpOr, wpC, wpSrc, wpSrcL, slot, F1.quiet, Ty.has, keepAll, partsF, frz, bindF, isNon, setAll, okRet, r_got, r_rd_d, r_rd_own, r_rd_brw, r_rd_ot, r_nm_d, r_nm_own, r_nm_brw, r_nm_exc, r_nm_ot, r_arg_d, r_arg_own, r_arg_brw, r_arg_exc, r_arg_ot, r_keep_d, r_keep_ownt, r_keep_ownf, r_keep_ott, r_keep_otf, r_kp_d, r_kp_own, r_kp_ot, r_ret_d, r_ret_own, r_ret_ot, r_ifB, r_add, r_sub, r_lt, r_le, r_gt, r_ge, r_not, r_int, r_isi_int_d, r_isi_bool_d, r_isi_list_d, r_isi_tuple_d, r_isi_int_own, r_isi_bool_own, r_isi_list_own, r_isi_tuple_own, r_isi_int_brw, r_isi_bool_brw, r_isi_list_brw, r_isi_tuple_brw, r_isi_exc, r_isi_val, r_isNone_d, r_isNone_own, r_max2, r_min2, r_ls_d, r_ls_own, r_low_int, r_pf_own, r_pf_d, r_it_d, r_it_own, r_it_dt, r_it_brw, numW, qW, q2W, d_map0, d_map1, d_app0, d_app1, d_get0, d_get1, d_set0, d_set1, d_rep0, d_rep1, d_len0, d_len1, d_omap, d_obind, d_ct, d_cf, d_nt, d_nf, d_fand, d_tand, d_op, Nat.reduceSub, Nat.reduceAdd]
    have bad : ¬ (1 ≤ xs.length ∧ xs.length ≤ 10) → okC (.list xs) = false := fun z => by
      refine Bool.eq_false_iff.mpr fun y => z ?_
      simp only [okC, Bool.and_eq_true, decide_eq_true_eq] at y
      exact y.1
    have good : (1 ≤ xs.length ∧ xs.length ≤ 10) → wpS (wpCall tab (n + 1)) false (.loop (.one 1) (.dat (.nm 0)) b_need_counts_1) [some (V.d (.list xs)), none] (fun fl _ => match fl with | .nxt => K (.d .none) | .ret v => K v) (fun c _ => X c) := fun hl => by
      dsimp only [wpSs, wpS, wpE, wpEs, wpAnd, wpOr, wpC, wpSrc, wpSrcL, slot, F1.quiet, Ty.has, keepAll, partsF, frz, bindF, isNon, setAll, okRet, r_got, r_rd_d, r_rd_own, r_rd_brw, r_rd_ot, r_nm_d, r_nm_own, r_nm_brw, r_nm_exc, r_nm_ot, r_arg_d, r_arg_own, r_arg_brw, r_arg_exc, r_arg_ot, r_keep_d, r_keep_ownt, r_keep_ownf, r_keep_ott, r_keep_otf, r_kp_d, r_kp_own, r_kp_ot, r_ret_d, r_ret_own, r_ret_ot, r_ifB, r_add, r_sub, r_lt, r_le, r_gt, r_ge, r_not, r_int, r_isi_int_d, r_isi_bool_d, r_isi_list_d, r_isi_tuple_d, r_isi_int_own, r_isi_bool_own, r_isi_list_own, r_isi_tuple_own, r_isi_int_brw, r_isi_bool_brw, r_isi_list_brw, r_isi_tuple_brw, r_isi_exc, r_isi_val, r_isNone_d, r_isNone_own, r_max2, r_min2, r_ls_d, r_ls_own, r_low_int, r_pf_own, r_pf_d, r_it_d, r_it_own, r_it_dt, r_it_brw, numW, qW, q2W, d_map0, d_map1, d_app0, d_app1, d_get0, d_get1, d_set0, d_set1, d_rep0, d_rep1, d_len0, d_len1, d_omap, d_obind, d_ct, d_cf, d_nt, d_nf, d_fand, d_tand, d_op, Nat.reduceSub, Nat.reduceAdd]
      refine ⟨by rw [List.length_map]; exact hx, ?_⟩
      refine forW_idx _ (fun i ρ => ∃ a1, ρ = [some (V.d (.list xs)), a1] ∧ ∀ j (hj : j < xs.length), j < i → amongB xs[j] 0 20 = true) ?_ ?_ _ ⟨none, rfl, fun j _ hj => by omega⟩
      · rintro ρ ⟨a1, rfl, hall⟩
        rw [List.length_map] at hall
        refine q ?_
        simp only [okC, Bool.and_eq_true, decide_eq_true_eq, List.all_eq_true]
        refine ⟨hl, fun y hy => ?_⟩
        obtain ⟨j, hj, rfl⟩ := List.getElem_of_mem hy
        exact hall j hj hj
      · rintro i hi ρ k ⟨a1, rfl, hall⟩ cont _
        have hi' : i < xs.length := by rw [List.length_map] at hi; exact hi
        rw [List.getElem_map]
        dsimp only [b_need_counts_1, wpSs, wpS, wpE, wpEs, wpAnd, wpOr, wpC, wpSrc, wpSrcL, slot, F1.quiet, Ty.has, keepAll, partsF, frz, bindF, isNon, setAll, okRet, r_got, r_rd_d, r_rd_own, r_rd_brw, r_rd_ot, r_nm_d, r_nm_own, r_nm_brw, r_nm_exc, r_nm_ot, r_arg_d, r_arg_own, r_arg_brw, r_arg_exc, r_arg_ot, r_keep_d, r_keep_ownt, r_keep_ownf, r_keep_ott, r_keep_otf, r_kp_d, r_kp_own, r_kp_ot, r_ret_d, r_ret_own, r_ret_ot, r_ifB, r_add, r_sub, r_lt, r_le, r_gt, r_ge, r_not, r_int, r_isi_int_d, r_isi_bool_d, r_isi_list_d, r_isi_tuple_d, r_isi_int_own, r_isi_bool_own, r_isi_list_own, r_isi_tuple_own, r_isi_int_brw, r_isi_bool_brw, r_isi_list_brw, r_isi_tuple_brw, r_isi_exc, r_isi_val, r_isNone_d, r_isNone_own, r_max2, r_min2, r_ls_d, r_ls_own, r_low_int, r_pf_own, r_pf_d, r_it_d, r_it_own, r_it_dt, r_it_brw, numW, qW, q2W, d_map0, d_map1, d_app0, d_app1, d_get0, d_get1, d_set0, d_set1, d_rep0, d_rep1, d_len0, d_len1, d_omap, d_obind, d_ct, d_cf, d_nt, d_nf, d_fand, d_tand, d_op, Nat.reduceSub, Nat.reduceAdd]
        refine among_spec ha _ _ _ ?_
        cases e : amongB xs[i] 0 20 with
        | true =>
          refine cont _ ⟨_, rfl, fun j hj h2 => ?_⟩
          by_cases z : j = i
          · subst z; exact e
          · exact hall j hj (by omega)
        | false =>
          refine ⟨rfl, r ?_⟩
          refine Bool.eq_false_iff.mpr fun z => ?_
          simp only [okC, Bool.and_eq_true, decide_eq_true_eq, List.all_eq_true] at z
          rw [z.2 _ (List.getElem_mem hi')] at e; cases e
    by_cases c1 : 1 ≤ xs.length
    · rw [decide_eq_true (by omega : (1 : Int) ≤ xs.length)]
      by_cases c2 : xs.length ≤ 10
      · rw [decide_eq_true (by omega : (xs.length : Int) ≤ 10)]
        exact good ⟨c1, c2⟩
      · rw [decide_eq_false (by omega : ¬ (xs.length : Int) ≤ 10)]
        exact ⟨rfl, r (bad fun z => c2 z.2)⟩
    · rw [decide_eq_false (by omega : ¬ (1 : Int) ≤ xs.length)]
      exact ⟨rfl, r (bad fun z => c1 z.1)⟩
  | _ => exact ⟨rfl, r rfl⟩

theorem okC_cts {cs : List Int} (h : Cts cs) : okC (.list (ofInts cs)) = true := by
  simp only [okC, Bool.and_eq_true, decide_eq_true_eq, List.all_eq_true, length_ofInts]
  refine ⟨⟨h.1, h.2.1⟩, fun y hy => ?_⟩
  obtain ⟨c, hc, rfl⟩ := List.mem_map.mp hy
  have := h.2.2 c hc
  simp [amongB]; omega
theorem lenOk_cts {cs : List Int} (h : Cts cs) : lenOk (.list (ofInts cs)) := by
  show (ofInts cs).length < lim
  rw [length_ofInts, lim_eq]; have := h.2.1; omega

theorem wanted_good (h : tab[f]? = some f_wanted) (ha : tab[0]? = some f_is_among) (hn : tab[1]? = some f_need_counts) (hw : tab[2]? = some f_want_of) {cs : List Int} (hc : Cts cs) (k : Nat) (hk : k ≤ cs.length) (q : K (.ot [(false, .int (wantA cs k)), (false, .int (wantB cs k))])) :
    wpCall tab (n + 3) false f [.d (.list (ofInts cs)), .d (.int k)] K X := by
  have := hc.2.1
  refine wpCall_in h rfl (by decide) ?_
  dsimp only [f_wanted, b_wanted, wpSs, wpS, wpE, wpEs, wpAnd, wpOr, wpC, wpSrc, wpSrcL, slot, F1.quiet, Ty.has, keepAll, partsF, frz, bindF, isNon, setAll, okRet, r_got, r_rd_d, r_rd_own, r_rd_brw, r_rd_ot, r_nm_d, r_nm_own, r_nm_brw, r_nm_exc, r_nm_ot, r_arg_d, r_arg_own, r_arg_brw, r_arg_exc, r_arg_ot, r_keep_d, r_keep_ownt, r_keep_ownf, r_keep_ott, r_keep_otf, r_kp_d, r_kp_own, r_kp_ot, r_ret_d, r_ret_own, r_ret_ot, r_ifB, r_add, r_sub, r_lt, r_le, r_gt, r_ge, r_not, r_int, r_isi_int_d, r_isi_bool_d, r_isi_list_d, r_isi_tuple_d, r_isi_int_own, r_isi_bool_own, r_isi_list_own, r_isi_tuple_own, r_isi_int_brw, r_isi_bool_brw, r_isi_list_brw, r_isi_tuple_brw, r_isi_exc, r_isi_val, r_isNone_d, r_isNone_own, r_max2, r_min2, r_ls_d, r_ls_own, r_low_int, r_pf_own, r_pf_d, r_it_d, r_it_own, r_it_dt, r_it_brw, numW, qW, q2W, d_map0, d_map1, d_app0, d_app1, d_get0, d_get1, d_set0, d_set1, d_rep0, d_rep1, d_len0, d_len1, d_omap, d_obind, d_ct, d_cf, d_nt, d_nf, d_fand, d_tand, d_op, Nat.reduceSub, Nat.reduceAdd]
  refine need_spec hn ha _ (lenOk_cts hc) (fun _ => ?_) (fun z => by rw [okC_cts hc] at z; cases z)
  rw [r_len_d (lenOk_cts hc), length_ofInts]
  dsimp only [wpSs, wpS, wpE, wpEs, wpAnd, wpOr, wpC, wpSrc, wpSrcL, slot, F1.quiet, Ty.has, keepAll, partsF, frz, bindF, isNon, setAll, okRet, r_got, r_rd_d, r_rd_own, r_rd_brw, r_rd_ot, r_nm_d, r_nm_own, r_nm_brw, r_nm_exc, r_nm_ot, r_arg_d, r_arg_own, r_arg_brw, r_arg_exc, r_arg_ot, r_keep_d, r_keep_ownt, r_keep_ownf, r_keep_ott, r_keep_otf, r_kp_d, r_kp_own, r_kp_ot, r_ret_d, r_ret_own, r_ret_ot, r_ifB, r_add, r_sub, r_lt, r_le, r_gt, r_ge, r_not, r_int, r_isi_int_d, r_isi_bool_d, r_isi_list_d, r_isi_tuple_d, r_isi_int_own, r_isi_bool_own, r_isi_list_own, r_isi_tuple_own, r_isi_int_brw, r_isi_bool_brw, r_isi_list_brw, r_isi_tuple_brw, r_isi_exc, r_isi_val, r_isNone_d, r_isNone_own, r_max2, r_min2, r_ls_d, r_ls_own, r_low_int, r_pf_own, r_pf_d, r_it_d, r_it_own, r_it_dt, r_it_brw, numW, qW, q2W, d_map0, d_map1, d_app0, d_app1, d_get0, d_get1, d_set0, d_set1, d_rep0, d_rep1, d_len0, d_len1, d_omap, d_obind, d_ct, d_cf, d_nt, d_nf, d_fand, d_tand, d_op, Nat.reduceSub, Nat.reduceAdd]
  refine among_spec ha _ _ _ ?_
  have e : amongB (.int k) 0 cs.length = true := by simp [amongB]; omega
  rw [e]
  dsimp only [wpSs, wpS, wpE, wpEs, wpAnd, wpOr, wpC, wpSrc, wpSrcL, slot, F1.quiet, Ty.has, keepAll, partsF, frz, bindF, isNon, setAll, okRet, r_got, r_rd_d, r_rd_own, r_rd_brw, r_rd_ot, r_nm_d, r_nm_own, r_nm_brw, r_nm_exc, r_nm_ot, r_arg_d, r_arg_own, r_arg_brw, r_arg_exc, r_arg_ot, r_keep_d, r_keep_ownt, r_keep_ownf, r_keep_ott, r_keep_otf, r_kp_d, r_kp_own, r_kp_ot, r_ret_d, r_ret_own, r_ret_ot, r_ifB, r_add, r_sub, r_lt, r_le, r_gt, r_ge, r_not, r_int, r_isi_int_d, r_isi_bool_d, r_isi_list_d, r_isi_tuple_d, r_isi_int_own, r_isi_bool_own, r_isi_list_own, r_isi_tuple_own, r_isi_int_brw, r_isi_bool_brw, r_isi_list_brw, r_isi_tuple_brw, r_isi_exc, r_isi_val, r_isNone_d, r_isNone_own, r_max2, r_min2, r_ls_d, r_ls_own, r_low_int, r_pf_own, r_pf_d, r_it_d, r_it_own, r_it_dt, r_it_brw, numW, qW, q2W, d_map0, d_map1, d_app0, d_app1, d_get0, d_get1, d_set0, d_set1, d_rep0, d_rep1, d_len0, d_len1, d_omap, d_obind, d_ct, d_cf, d_nt, d_nf, d_fand, d_tand, d_op, Nat.reduceSub, Nat.reduceAdd]
  refine want_of_spec hw cs (by omega) k (by omega) ?_
  exact q
theorem wanted_many (h : tab[f]? = some f_wanted) (ha : tab[0]? = some f_is_among) (hn : tab[1]? = some f_need_counts) {cs : List Int} (hc : Cts cs) (y : PyData) (hy : amongB y 0 cs.length = false) (q : X 2) :
    wpCall tab (n + 3) false f [.d (.list (ofInts cs)), .d y] K X := by
  have := hc.2.1
  refine wpCall_in h rfl (by decide) ?_
  dsimp only [f_wanted, b_wanted, wpSs, wpS, wpE, wpEs, wpAnd, wpOr, wpC, wpSrc, wpSrcL, slot, F1.quiet, Ty.has, keepAll, partsF, frz, bindF, isNon, setAll, okRet, r_got, r_rd_d, r_rd_own, r_rd_brw, r_rd_ot, r_nm_d, r_nm_own, r_nm_brw, r_nm_exc, r_nm_ot, r_arg_d, r_arg_own, r_arg_brw, r_arg_exc, r_arg_ot, r_keep_d, r_keep_ownt, r_keep_ownf, r_keep_ott, r_keep_otf, r_kp_d, r_kp_own, r_kp_ot, r_ret_d, r_ret_own, r_ret_ot, r_ifB, r_add, r_sub, r_lt, r_le, r_gt, r_ge, r_not, r_int, r_isi_int_d, r_isi_bool_d, r_isi_list_d, r_isi_tuple_d, r_isi_int_own, r_isi_bool_own, r_isi_list_own, r_isi_tuple_own, r_isi_int_brw, r_isi_bool_brw, r_isi_list_brw, r_isi_tuple_brw, r_isi_exc, r_isi_val, r_isNone_d, r_isNone_own, r_max2, r_min2, r_ls_d, r_ls_own, r_low_int, r_pf_own, r_pf_d, r_it_d, r_it_own, r_it_dt, r_it_brw, numW, qW, q2W, d_map0, d_map1, d_app0, d_app1, d_get0, d_get1, d_set0, d_set1, d_rep0, d_rep1, d_len0, d_len1, d_omap, d_obind, d_ct, d_cf, d_nt, d_nf, d_fand, d_tand, d_op, Nat.reduceSub, Nat.reduceAdd]
  refine need_spec hn ha _ (lenOk_cts hc) (fun _ => ?_) (fun z => by rw [okC_cts hc] at z; cases z)
  rw [r_len_d (lenOk_cts hc), length_ofInts]
  dsimp only [wpSs, wpS, wpE, wpEs, wpAnd, wpOr, wpC, wpSrc, wpSrcL, slot, F1.quiet, Ty.has, keepAll, partsF, frz, bindF, isNon, setAll, okRet, r_got, r_rd_d, r_rd_own, r_rd_brw, r_rd_ot, r_nm_d, r_nm_own, r_nm_brw, r_nm_exc, r_nm_ot, r_arg_d, r_arg_own, r_arg_brw, r_arg_exc, r_arg_ot, r_keep_d, r_keep_ownt, r_keep_ownf, r_keep_ott, r_keep_otf, r_kp_d, r_kp_own, r_kp_ot, r_ret_d, r_ret_own, r_ret_ot, r_ifB, r_add, r_sub, r_lt, r_le, r_gt, r_ge, r_not, r_int, r_isi_int_d, r_isi_bool_d, r_isi_list_d, r_isi_tuple_d, r_isi_int_own, r_isi_bool_own, r_isi_list_own, r_isi_tuple_own, r_isi_int_brw, r_isi_bool_brw, r_isi_list_brw, r_isi_tuple_brw, r_isi_exc, r_isi_val, r_isNone_d, r_isNone_own, r_max2, r_min2, r_ls_d, r_ls_own, r_low_int, r_pf_own, r_pf_d, r_it_d, r_it_own, r_it_dt, r_it_brw, numW, qW, q2W, d_map0, d_map1, d_app0, d_app1, d_get0, d_get1, d_set0, d_set1, d_rep0, d_rep1, d_len0, d_len1, d_omap, d_obind, d_ct, d_cf, d_nt, d_nf, d_fand, d_tand, d_op, Nat.reduceSub, Nat.reduceAdd]
  refine among_spec ha _ _ _ ?_
  rw [hy]
  exact ⟨rfl, q⟩
theorem wanted_counts (h : tab[f]? = some f_wanted) (ha : tab[0]? = some f_is_among) (hn : tab[1]? = some f_need_counts) (x y : PyData) (hx : lenOk x) (ho : okC x = false) (q : X 1) :
    wpCall tab (n + 3) false f [.d x, .d y] K X := by
  refine wpCall_in h rfl (by decide) ?_
  dsimp only [f_wanted, b_wanted, wpSs, wpS, wpE, wpEs, wpAnd, wpOr, wpC, wpSrc, wpSrcL, slot, F1.quiet, Ty.has, keepAll, partsF, frz, bindF, isNon, setAll, okRet, r_got, r_rd_d, r_rd_own, r_rd_brw, r_rd_ot, r_nm_d, r_nm_own, r_nm_brw, r_nm_exc, r_nm_ot, r_arg_d, r_arg_own, r_arg_brw, r_arg_exc, r_arg_ot, r_keep_d, r_keep_ownt, r_keep_ownf, r_keep_ott, r_keep_otf, r_kp_d, r_kp_own, r_kp_ot, r_ret_d, r_ret_own, r_ret_ot, r_ifB, r_add, r_sub, r_lt, r_le, r_gt, r_ge, r_not, r_int, r_isi_int_d, r_isi_bool_d, r_isi_list_d, r_isi_tuple_d, r_isi_int_own, r_isi_bool_own, r_isi_list_own, r_isi_tuple_own, r_isi_int_brw, r_isi_bool_brw, r_isi_list_brw, r_isi_tuple_brw, r_isi_exc, r_isi_val, r_isNone_d, r_isNone_own, r_max2, r_min2, r_ls_d, r_ls_own, r_low_int, r_pf_own, r_pf_d, r_it_d, r_it_own, r_it_dt, r_it_brw, numW, qW, q2W, d_map0, d_map1, d_app0, d_app1, d_get0, d_get1, d_set0, d_set1, d_rep0, d_rep1, d_len0, d_len1, d_omap, d_obind, d_ct, d_cf, d_nt, d_nf, d_fand, d_tand, d_op, Nat.reduceSub, Nat.reduceAdd]
  exact need_spec hn ha _ hx (fun z => by rw [ho] at z; cases z) (fun _ => q)

/-- the word for an exception -/
theorem kind_spec (h : tab[f]? = some f__law_kind) (c : Nat) (w : Str) (hc : c = 1 ∧ w = "counts" ∨ c = 2 ∧ w = "many") (q : K (.own (.list [.str w]))) : wpCall tab (n + 1) hm f [.exc c] K X := by
  refine wpCall_in h rfl (by decide) ?_
  dsimp only [f__law_kind, b__law_kind, wpSs, wpS, wpE, wpEs, wpAnd, wpOr, wpC, wpSrc, wpSrcL, slot, F1.quiet, Ty.has, keepAll, partsF, frz, bindF, isNon, setAll, okRet, r_got, r_rd_d, r_rd_own, r_rd_brw, r_rd_ot, r_nm_d, r_nm_own, r_nm_brw, r_nm_exc, r_nm_ot, r_arg_d, r_arg_own, r_arg_brw, r_arg_exc, r_arg_ot, r_keep_d, r_keep_ownt, r_keep_ownf, r_keep_ott, r_keep_otf, r_kp_d, r_kp_own, r_kp_ot, r_ret_d, r_ret_own, r_ret_ot, r_ifB, r_add, r_sub, r_lt, r_le, r_gt, r_ge, r_not, r_int, r_isi_int_d, r_isi_bool_d, r_isi_list_d, r_isi_tuple_d, r_isi_int_own, r_isi_bool_own, r_isi_list_own, r_isi_tuple_own, r_isi_int_brw, r_isi_bool_brw, r_isi_list_brw, r_isi_tuple_brw, r_isi_exc, r_isi_val, r_isNone_d, r_isNone_own, r_max2, r_min2, r_ls_d, r_ls_own, r_low_int, r_pf_own, r_pf_d, r_it_d, r_it_own, r_it_dt, r_it_brw, numW, qW, q2W, d_map0, d_map1, d_app0, d_app1, d_get0, d_get1, d_set0, d_set1, d_rep0, d_rep1, d_len0, d_len1, d_omap, d_obind, d_ct, d_cf, d_nt, d_nf, d_fand, d_tand, d_op, Nat.reduceSub, Nat.reduceAdd]
  refine opW_add_do (lim_lt (by exact (by decide : 4 < 1000))) ?_
  refine opW_add_do (lim_lt (by exact (by decide : 6 < 1000))) ?_
  refine ⟨lim_lt (by exact (by decide : 6 < 1000)), ?_⟩
  rcases hc with ⟨rfl, rfl⟩ | ⟨rfl, rfl⟩ <;>
  · refine ⟨lim_lt (by exact (by decide : 1 < 1000)), ?_⟩
    dsimp only [wpSs, wpS, wpE, wpEs, wpAnd, wpOr, wpC, wpSrc, wpSrcL, slot, F1.quiet, Ty.has, keepAll, partsF, frz, bindF, isNon, setAll, okRet, r_got, r_rd_d, r_rd_own, r_rd_brw, r_rd_ot, r_nm_d, r_nm_own, r_nm_brw, r_nm_exc, r_nm_ot, r_arg_d, r_arg_own, r_arg_brw, r_arg_exc, r_arg_ot, r_keep_d, r_keep_ownt, r_keep_ownf, r_keep_ott, r_keep_otf, r_kp_d, r_kp_own, r_kp_ot, r_ret_d, r_ret_own, r_ret_ot, r_ifB, r_add, r_sub, r_lt, r_le, r_gt, r_ge, r_not, r_int, r_isi_int_d, r_isi_bool_d, r_isi_list_d, r_isi_tuple_d, r_isi_int_own, r_isi_bool_own, r_isi_list_own, r_isi_tuple_own, r_isi_int_brw, r_isi_bool_brw, r_isi_list_brw, r_isi_tuple_brw, r_isi_exc, r_isi_val, r_isNone_d, r_isNone_own, r_max2, r_min2, r_ls_d, r_ls_own, r_low_int, r_pf_own, r_pf_d, r_it_d, r_it_own, r_it_dt, r_it_brw, numW, qW, q2W, d_map0, d_map1, d_app0, d_app1, d_get0, d_get1, d_set0, d_set1, d_rep0, d_rep1, d_len0, d_len1, d_omap, d_obind, d_ct, d_cf, d_nt, d_nf, d_fand, d_tand, d_op, Nat.reduceSub, Nat.reduceAdd]
    rw [r_len_d (lim_lt (by exact (by decide : 1 < 1000)))]
    refine opW_mul_d (by decide) (lim_lti (by decide)) (lim_lt (by exact (by decide : 1 < 1000))) ?_
    exact q

theorem told_good (h : tab[f]? = some f__law_told) (hwa : tab[3]? = some f_wanted) (ha : tab[0]? = some f_is_among) (hn : tab[1]? = some f_need_counts) (hw : tab[2]? = some f_want_of) {cs : List Int} (hc : Cts cs) (k : Nat) (hk : k ≤ cs.length) (q : K (.ot [(false, .int (wantA cs k)), (false, .int (wantB cs k))])) :
    wpCall tab (n + 4) false f [.d (.list (ofInts cs)), .d (.int k)] K X := by
  refine wpCall_in h rfl (by decide) ?_
  dsimp only [f__law_told, b__law_told, wpSs, wpS, wpE, wpEs, wpAnd, wpOr, wpC, wpSrc, wpSrcL, slot, F1.quiet, Ty.has, keepAll, partsF, frz, bindF, isNon, setAll, okRet, r_got, r_rd_d, r_rd_own, r_rd_brw, r_rd_ot, r_nm_d, r_nm_own, r_nm_brw, r_nm_exc, r_nm_ot, r_arg_d, r_arg_own, r_arg_brw, r_arg_exc, r_arg_ot, r_keep_d, r_keep_ownt, r_keep_ownf, r_keep_ott, r_keep_otf, r_kp_d, r_kp_own, r_kp_ot, r_ret_d, r_ret_own, r_ret_ot, r_ifB, r_add, r_sub, r_lt, r_le, r_gt, r_ge, r_not, r_int, r_isi_int_d, r_isi_bool_d, r_isi_list_d, r_isi_tuple_d, r_isi_int_own, r_isi_bool_own, r_isi_list_own, r_isi_tuple_own, r_isi_int_brw, r_isi_bool_brw, r_isi_list_brw, r_isi_tuple_brw, r_isi_exc, r_isi_val, r_isNone_d, r_isNone_own, r_max2, r_min2, r_ls_d, r_ls_own, r_low_int, r_pf_own, r_pf_d, r_it_d, r_it_own, r_it_dt, r_it_brw, numW, qW, q2W, d_map0, d_map1, d_app0, d_app1, d_get0, d_get1, d_set0, d_set1, d_rep0, d_rep1, d_len0, d_len1, d_omap, d_obind, d_ct, d_cf, d_nt, d_nf, d_fand, d_tand, d_op, Nat.reduceSub, Nat.reduceAdd]
  exact wanted_good hwa ha hn hw hc k hk q
theorem told_many (h : tab[f]? = some f__law_told) (hwa : tab[3]? = some f_wanted) (ha : tab[0]? = some f_is_among) (hn : tab[1]? = some f_need_counts) (hki : tab[11]? = some f__law_kind) {cs : List Int} (hc : Cts cs) (y : PyData) (hy : amongB y 0 cs.length = false) (q : K (.own (.list [.str "many"]))) :
    wpCall tab (n + 4) false f [.d (.list (ofInts cs)), .d y] K X := by
  refine wpCall_in h rfl (by decide) ?_
  dsimp only [f__law_told, b__law_told, wpSs, wpS, wpE, wpEs, wpAnd, wpOr, wpC, wpSrc, wpSrcL, slot, F1.quiet, Ty.has, keepAll, partsF, frz, bindF, isNon, setAll, okRet, r_got, r_rd_d, r_rd_own, r_rd_brw, r_rd_ot, r_nm_d, r_nm_own, r_nm_brw, r_nm_exc, r_nm_ot, r_arg_d, r_arg_own, r_arg_brw, r_arg_exc, r_arg_ot, r_keep_d, r_keep_ownt, r_keep_ownf, r_keep_ott, r_keep_otf, r_kp_d, r_kp_own, r_kp_ot, r_ret_d, r_ret_own, r_ret_ot, r_ifB, r_add, r_sub, r_lt, r_le, r_gt, r_ge, r_not, r_int, r_isi_int_d, r_isi_bool_d, r_isi_list_d, r_isi_tuple_d, r_isi_int_own, r_isi_bool_own, r_isi_list_own, r_isi_tuple_own, r_isi_int_brw, r_isi_bool_brw, r_isi_list_brw, r_isi_tuple_brw, r_isi_exc, r_isi_val, r_isNone_d, r_isNone_own, r_max2, r_min2, r_ls_d, r_ls_own, r_low_int, r_pf_own, r_pf_d, r_it_d, r_it_own, r_it_dt, r_it_brw, numW, qW, q2W, d_map0, d_map1, d_app0, d_app1, d_get0, d_get1, d_set0, d_set1, d_rep0, d_rep1, d_len0, d_len1, d_omap, d_obind, d_ct, d_cf, d_nt, d_nf, d_fand, d_tand, d_op, Nat.reduceSub, Nat.reduceAdd]
  refine wanted_many hwa ha hn hc y hy ⟨.inl rfl, rfl, ?_⟩
  exact kind_spec hki 2 _ (.inr ⟨rfl, rfl⟩) ⟨trivial, q⟩
theorem told_counts (h : tab[f]? = some f__law_told) (hwa : tab[3]? = some f_wanted) (ha : tab[0]? = some f_is_among) (hn : tab[1]? = some f_need_counts) (hki : tab[11]? = some f__law_kind) (x y : PyData) (hx : lenOk x) (ho : okC x = false) (q : K (.own (.list [.str "counts"]))) :
    wpCall tab (n + 4) false f [.d x, .d y] K X := by
  refine wpCall_in h rfl (by decide) ?_
  dsimp only [f__law_told, b__law_told, wpSs, wpS, wpE, wpEs, wpAnd, wpOr, wpC, wpSrc, wpSrcL, slot, F1.quiet, Ty.has, keepAll, partsF, frz, bindF, isNon, setAll, okRet, r_got, r_rd_d, r_rd_own, r_rd_brw, r_rd_ot, r_nm_d, r_nm_own, r_nm_brw, r_nm_exc, r_nm_ot, r_arg_d, r_arg_own, r_arg_brw, r_arg_exc, r_arg_ot, r_keep_d, r_keep_ownt, r_keep_ownf, r_keep_ott, r_keep_otf, r_kp_d, r_kp_own, r_kp_ot, r_ret_d, r_ret_own, r_ret_ot, r_ifB, r_add, r_sub, r_lt, r_le, r_gt, r_ge, r_not, r_int, r_isi_int_d, r_isi_bool_d, r_isi_list_d, r_isi_tuple_d, r_isi_int_own, r_isi_bool_own, r_isi_list_own, r_isi_tuple_own, r_isi_int_brw, r_isi_bool_brw, r_isi_list_brw, r_isi_tuple_brw, r_isi_exc, r_isi_val, r_isNone_d, r_isNone_own, r_max2, r_min2, r_ls_d, r_ls_own, r_low_int, r_pf_own, r_pf_d, r_it_d, r_it_own, r_it_dt, r_it_brw, numW, qW, q2W, d_map0, d_map1, d_app0, d_app1, d_get0, d_get1, d_set0, d_set1, d_rep0, d_rep1, d_len0, d_len1, d_omap, d_obind, d_ct, d_cf, d_nt, d_nf, d_fand, d_tand, d_op, Nat.reduceSub, Nat.reduceAdd]
  refine wanted_counts hwa ha hn x y hx ho ⟨.inl rfl, rfl, ?_⟩
  exact kind_spec hki 1 _ (.inl ⟨rfl, rfl⟩) ⟨trivial, q⟩
theorem needed_good (h : tab[f]? = some f__law_needed) (ha : tab[0]? = some f_is_among) (hn : tab[1]? = some f_need_counts) {cs : List Int} (hc : Cts cs) (q : K (.d .none)) :
    wpCall tab (n + 4) false f [.d (.list (ofInts cs))] K X := by
  refine wpCall_in h rfl (by decide) ?_
  dsimp only [f__law_needed, b__law_needed, wpSs, wpS, wpE, wpEs, wpAnd, wpOr, wpC, wpSrc, wpSrcL, slot, F1.quiet, Ty.has, keepAll, partsF, frz, bindF, isNon, setAll, okRet, r_got, r_rd_d, r_rd_own, r_rd_brw, r_rd_ot, r_nm_d, r_nm_own, r_nm_brw, r_nm_exc, r_nm_ot, r_arg_d, r_arg_own, r_arg_brw, r_arg_exc, r_arg_ot, r_keep_d, r_keep_ownt, r_keep_ownf, r_keep_ott, r_keep_otf, r_kp_d, r_kp_own, r_kp_ot, r_ret_d, r_ret_own, r_ret_ot, r_ifB, r_add, r_sub, r_lt, r_le, r_gt, r_ge, r_not, r_int, r_isi_int_d, r_isi_bool_d, r_isi_list_d, r_isi_tuple_d, r_isi_int_own, r_isi_bool_own, r_isi_list_own, r_isi_tuple_own, r_isi_int_brw, r_isi_bool_brw, r_isi_list_brw, r_isi_tuple_brw, r_isi_exc, r_isi_val, r_isNone_d, r_isNone_own, r_max2, r_min2, r_ls_d, r_ls_own, r_low_int, r_pf_own, r_pf_d, r_it_d, r_it_own, r_it_dt, r_it_brw, numW, qW, q2W, d_map0, d_map1, d_app0, d_app1, d_get0, d_get1, d_set0, d_set1, d_rep0, d_rep1, d_len0, d_len1, d_omap, d_obind, d_ct, d_cf, d_nt, d_nf, d_fand, d_tand, d_op, Nat.reduceSub, Nat.reduceAdd]
  exact need_spec hn ha _ (lenOk_cts hc) (fun _ => q) (fun z => by rw [okC_cts hc] at z; cases z)
theorem needed_counts (h : tab[f]? = some f__law_needed) (ha : tab[0]? = some f_is_among) (hn : tab[1]? = some f_need_counts) (hki : tab[11]? = some f__law_kind) (x : PyData) (hx : lenOk x) (ho : okC x = false) (q : K (.own (.list [.str "counts"]))) :
    wpCall tab (n + 4) false f [.d x] K X := by
  refine wpCall_in h rfl (by decide) ?_
  dsimp only [f__law_needed, b__law_needed, wpSs, wpS, wpE, wpEs, wpAnd, wpOr, wpC, wpSrc, wpSrcL, slot, F1.quiet, Ty.has, keepAll, partsF, frz, bindF, isNon, setAll, okRet, r_got, r_rd_d, r_rd_own, r_rd_brw, r_rd_ot, r_nm_d, r_nm_own, r_nm_brw, r_nm_exc, r_nm_ot, r_arg_d, r_arg_own, r_arg_brw, r_arg_exc, r_arg_ot, r_keep_d, r_keep_ownt, r_keep_ownf, r_keep_ott, r_keep_otf, r_kp_d, r_kp_own, r_kp_ot, r_ret_d, r_ret_own, r_ret_ot, r_ifB, r_add, r_sub, r_lt, r_le, r_gt, r_ge, r_not, r_int, r_isi_int_d, r_isi_bool_d, r_isi_list_d, r_isi_tuple_d, r_isi_int_own, r_isi_bool_own, r_isi_list_own, r_isi_tuple_own, r_isi_int_brw, r_isi_bool_brw, r_isi_list_brw, r_isi_tuple_brw, r_isi_exc, r_isi_val, r_isNone_d, r_isNone_own, r_max2, r_min2, r_ls_d, r_ls_own, r_low_int, r_pf_own, r_pf_d, r_it_d, r_it_own, r_it_dt, r_it_brw, numW, qW, q2W, d_map0, d_map1, d_app0, d_app1, d_get0, d_get1, d_set0, d_set1, d_rep0, d_rep1, d_len0, d_len1, d_omap, d_obind, d_ct, d_cf, d_nt, d_nf, d_fand, d_tand, d_op, Nat.reduceSub, Nat.reduceAdd]
  refine need_spec hn ha _ hx (fun z => by rw [ho] at z; cases z) (fun _ => ⟨.inl rfl, rfl, ?_⟩)
  exact kind_spec hki 1 _ (.inl ⟨rfl, rfl⟩) ⟨trivial, q⟩

theorem tuple_spec {xs : List PyData} (h : xs.length < lim) : F1.ev .tuple (.d (.list xs)) = some (.d (.tuple xs)) := if_pos h
theorem no_counts_spec (h : tab[f]? = some f__law_no_counts) {cs : List Int} (hc : Cts cs) (c : Int) (q : ∀ u w, keepV false u = some (.d w) → lenOk w → okC w = false → K u) : wpCall tab (n + 1) false f [.d (.list (ofInts cs)), .d (.int c)] K X := by
  have l0 := hc.1
  have l1 := hc.2.1
  have l2 : (ofInts cs).length < lim := by rw [length_ofInts, lim_eq]; omega
  refine wpCall_in h rfl (by decide) ?_
  have y0 := fmod_nonneg' (a := c.fdiv 16) (b := cs.length) (by omega)
  have y1 := fmod_lt' (a := c.fdiv 16) (b := cs.length) (by omega)
  have w0 := fmod_nonneg' (a := c) (b := 16) (by omega)
  have w1 := fmod_lt' (a := c) (b := 16) (by omega)
  have v0 := fmod_nonneg' (a := c.fmod 16) (b := 10) (by omega)
  have v1 := fmod_lt' (a := c.fmod 16) (b := 10) (by omega)
  have u0 := fmod_nonneg' (a := c.fdiv 160) (b := 100000000000000000000) (by omega)
  dsimp only [f__law_no_counts, b__law_no_counts, wpSs, wpS, wpE, wpEs, wpAnd, wpOr, wpC, wpSrc, wpSrcL, slot, F1.quiet, Ty.has, keepAll, partsF, frz, bindF, isNon, setAll, okRet, r_got, r_rd_d, r_rd_own, r_rd_brw, r_rd_ot, r_nm_d, r_nm_own, r_nm_brw, r_nm_exc, r_nm_ot, r_arg_d, r_arg_own, r_arg_brw, r_arg_exc, r_arg_ot, r_keep_d, r_keep_ownt, r_keep_ownf, r_keep_ott, r_keep_otf, r_kp_d, r_kp_own, r_kp_ot, r_ret_d, r_ret_own, r_ret_ot, r_ifB, r_add, r_sub, r_lt, r_le, r_gt, r_ge, r_not, r_int, r_isi_int_d, r_isi_bool_d, r_isi_list_d, r_isi_tuple_d, r_isi_int_own, r_isi_bool_own, r_isi_list_own, r_isi_tuple_own, r_isi_int_brw, r_isi_bool_brw, r_isi_list_brw, r_isi_tuple_brw, r_isi_exc, r_isi_val, r_isNone_d, r_isNone_own, r_max2, r_min2, r_ls_d, r_ls_own, r_low_int, r_pf_own, r_pf_d, r_it_d, r_it_own, r_it_dt, r_it_brw, numW, qW, q2W, d_map0, d_map1, d_app0, d_app1, d_get0, d_get1, d_set0, d_set1, d_rep0, d_rep1, d_len0, d_len1, d_omap, d_obind, d_ct, d_cf, d_nt, d_nf, d_fand, d_tand, d_op, Nat.reduceSub, Nat.reduceAdd]
  rw [r_len_d l2, length_ofInts]
  refine ⟨⟨by decide, by decide⟩, by omega, ⟨by decide, by decide⟩, by decide, ?_⟩
  dsimp only [wpSs, wpS, wpE, wpEs, wpAnd, wpOr, wpC, wpSrc, wpSrcL, slot, F1.quiet, Ty.has, keepAll, partsF, frz, bindF, isNon, setAll, okRet, r_got, r_rd_d, r_rd_own, r_rd_brw, r_rd_ot, r_nm_d, r_nm_own, r_nm_brw, r_nm_exc, r_nm_ot, r_arg_d, r_arg_own, r_arg_brw, r_arg_exc, r_arg_ot, r_keep_d, r_keep_ownt, r_keep_ownf, r_keep_ott, r_keep_otf, r_kp_d, r_kp_own, r_kp_ot, r_ret_d, r_ret_own, r_ret_ot, r_ifB, r_add, r_sub, r_lt, r_le, r_gt, r_ge, r_not, r_int, r_isi_int_d, r_isi_bool_d, r_isi_list_d, r_isi_tuple_d, r_isi_int_own, r_isi_bool_own, r_isi_list_own, r_isi_tuple_own, r_isi_int_brw, r_isi_bool_brw, r_isi_list_brw, r_isi_tuple_brw, r_isi_exc, r_isi_val, r_isNone_d, r_isNone_own, r_max2, r_min2, r_ls_d, r_ls_own, r_low_int, r_pf_own, r_pf_d, r_it_d, r_it_own, r_it_dt, r_it_brw, numW, qW, q2W, d_map0, d_map1, d_app0, d_app1, d_get0, d_get1, d_set0, d_set1, d_rep0, d_rep1, d_len0, d_len1, d_omap, d_obind, d_ct, d_cf, d_nt, d_nf, d_fand, d_tand, d_op, Nat.reduceSub, Nat.reduceAdd]
  refine ⟨by decide, by decide, ?_⟩
  generalize (c.fdiv 160).fmod 100000000000000000000 = big at *
  generalize (c.fmod 16).fmod 10 = r at *
  obtain ⟨odd, ho, hodd⟩ : ∃ odd : PyData, ([PyData.int (-1), PyData.int 21, PyData.bool true, PyData.none, PyData.str (Str.ofString "1"), PyData.list [PyData.int 1], PyData.int (21 + big), PyData.bool false, PyData.tuple [PyData.int 1], PyData.dict []] : List PyData)[r.toNat]? = some odd ∧ amongB odd 0 20 = false := by
    have kk : r = 0 ∨ r = 1 ∨ r = 2 ∨ r = 3 ∨ r = 4 ∨ r = 5 ∨ r = 6 ∨ r = 7 ∨ r = 8 ∨ r = 9 := by omega
    rcases kk with rfl | rfl | rfl | rfl | rfl | rfl | rfl | rfl | rfl | rfl
    all_goals first
      | exact ⟨_, rfl, rfl⟩
      | (refine ⟨_, rfl, ?_⟩; simp [amongB]; omega)
  rw [r_idx_ownl v0 (by omega), ho]
  generalize (c.fdiv 16).fmod (cs.length : Int) = a at *
  refine ⟨by decide, ifB_by (fun _ => ?_) fun c10 => ?_⟩
  · rw [r_to (r_ls_d _) y0 (by rw [lim_eq]; omega) l2]
    dsimp only [wpSs, wpS, wpE, wpEs, wpAnd, wpOr, wpC, wpSrc, wpSrcL, slot, F1.quiet, Ty.has, keepAll, partsF, frz, bindF, isNon, setAll, okRet, r_got, r_rd_d, r_rd_own, r_rd_brw, r_rd_ot, r_nm_d, r_nm_own, r_nm_brw, r_nm_exc, r_nm_ot, r_arg_d, r_arg_own, r_arg_brw, r_arg_exc, r_arg_ot, r_keep_d, r_keep_ownt, r_keep_ownf, r_keep_ott, r_keep_otf, r_kp_d, r_kp_own, r_kp_ot, r_ret_d, r_ret_own, r_ret_ot, r_ifB, r_add, r_sub, r_lt, r_le, r_gt, r_ge, r_not, r_int, r_isi_int_d, r_isi_bool_d, r_isi_list_d, r_isi_tuple_d, r_isi_int_own, r_isi_bool_own, r_isi_list_own, r_isi_tuple_own, r_isi_int_brw, r_isi_bool_brw, r_isi_list_brw, r_isi_tuple_brw, r_isi_exc, r_isi_val, r_isNone_d, r_isNone_own, r_max2, r_min2, r_ls_d, r_ls_own, r_low_int, r_pf_own, r_pf_d, r_it_d, r_it_own, r_it_dt, r_it_brw, numW, qW, q2W, d_map0, d_map1, d_app0, d_app1, d_get0, d_get1, d_set0, d_set1, d_rep0, d_rep1, d_len0, d_len1, d_omap, d_obind, d_ct, d_cf, d_nt, d_nf, d_fand, d_tand, d_op, Nat.reduceSub, Nat.reduceAdd]
    refine opW_other rfl ?_
    rw [ofInts_take, r_add_own_own (by rw [length_ofInts, List.length_take]; simp only [List.length_cons, List.length_nil]; rw [lim_eq]; omega)]
    dsimp only [wpSs, wpS, wpE, wpEs, wpAnd, wpOr, wpC, wpSrc, wpSrcL, slot, F1.quiet, Ty.has, keepAll, partsF, frz, bindF, isNon, setAll, okRet, r_got, r_rd_d, r_rd_own, r_rd_brw, r_rd_ot, r_nm_d, r_nm_own, r_nm_brw, r_nm_exc, r_nm_ot, r_arg_d, r_arg_own, r_arg_brw, r_arg_exc, r_arg_ot, r_keep_d, r_keep_ownt, r_keep_ownf, r_keep_ott, r_keep_otf, r_kp_d, r_kp_own, r_kp_ot, r_ret_d, r_ret_own, r_ret_ot, r_ifB, r_add, r_sub, r_lt, r_le, r_gt, r_ge, r_not, r_int, r_isi_int_d, r_isi_bool_d, r_isi_list_d, r_isi_tuple_d, r_isi_int_own, r_isi_bool_own, r_isi_list_own, r_isi_tuple_own, r_isi_int_brw, r_isi_bool_brw, r_isi_list_brw, r_isi_tuple_brw, r_isi_exc, r_isi_val, r_isNone_d, r_isNone_own, r_max2, r_min2, r_ls_d, r_ls_own, r_low_int, r_pf_own, r_pf_d, r_it_d, r_it_own, r_it_dt, r_it_brw, numW, qW, q2W, d_map0, d_map1, d_app0, d_app1, d_get0, d_get1, d_set0, d_set1, d_rep0, d_rep1, d_len0, d_len1, d_omap, d_obind, d_ct, d_cf, d_nt, d_nf, d_fand, d_tand, d_op, Nat.reduceSub, Nat.reduceAdd]
    rw [r_from (r_ls_d _) (by omega) (by rw [lim_eq]; omega) l2, ofInts_drop]
    dsimp only [wpSs, wpS, wpE, wpEs, wpAnd, wpOr, wpC, wpSrc, wpSrcL, slot, F1.quiet, Ty.has, keepAll, partsF, frz, bindF, isNon, setAll, okRet, r_got, r_rd_d, r_rd_own, r_rd_brw, r_rd_ot, r_nm_d, r_nm_own, r_nm_brw, r_nm_exc, r_nm_ot, r_arg_d, r_arg_own, r_arg_brw, r_arg_exc, r_arg_ot, r_keep_d, r_keep_ownt, r_keep_ownf, r_keep_ott, r_keep_otf, r_kp_d, r_kp_own, r_kp_ot, r_ret_d, r_ret_own, r_ret_ot, r_ifB, r_add, r_sub, r_lt, r_le, r_gt, r_ge, r_not, r_int, r_isi_int_d, r_isi_bool_d, r_isi_list_d, r_isi_tuple_d, r_isi_int_own, r_isi_bool_own, r_isi_list_own, r_isi_tuple_own, r_isi_int_brw, r_isi_bool_brw, r_isi_list_brw, r_isi_tuple_brw, r_isi_exc, r_isi_val, r_isNone_d, r_isNone_own, r_max2, r_min2, r_ls_d, r_ls_own, r_low_int, r_pf_own, r_pf_d, r_it_d, r_it_own, r_it_dt, r_it_brw, numW, qW, q2W, d_map0, d_map1, d_app0, d_app1, d_get0, d_get1, d_set0, d_set1, d_rep0, d_rep1, d_len0, d_len1, d_omap, d_obind, d_ct, d_cf, d_nt, d_nf, d_fand, d_tand, d_op, Nat.reduceSub, Nat.reduceAdd]
    refine opW_other rfl ?_
    rw [r_add_own_own (by rw [List.length_append, length_ofInts, length_ofInts, List.length_take, List.length_drop]; simp only [List.length_cons, List.length_nil]; rw [lim_eq]; omega)]
    refine q _ _ rfl ?_ ?_
    · show List.length _ < lim
      rw [List.length_append, List.length_append, length_ofInts, length_ofInts, List.length_take, List.length_drop]; simp only [List.length_cons, List.length_nil]; rw [lim_eq]; omega
    · simp [okC, hodd]
  · refine opW_other rfl ?_
    rw [r_mul_d (by decide) (by rw [lim_eq]; decide) (by rw [length_ofInts, lim_eq]; show cs.length * 11 < _; omega), tuple_spec l2]
    refine ⟨by decide, ?_⟩
    dsimp only [wpSs, wpS, wpE, wpEs, wpAnd, wpOr, wpC, wpSrc, wpSrcL, slot, F1.quiet, Ty.has, keepAll, partsF, frz, bindF, isNon, setAll, okRet, r_got, r_rd_d, r_rd_own, r_rd_brw, r_rd_ot, r_nm_d, r_nm_own, r_nm_brw, r_nm_exc, r_nm_ot, r_arg_d, r_arg_own, r_arg_brw, r_arg_exc, r_arg_ot, r_keep_d, r_keep_ownt, r_keep_ownf, r_keep_ott, r_keep_otf, r_kp_d, r_kp_own, r_kp_ot, r_ret_d, r_ret_own, r_ret_ot, r_ifB, r_add, r_sub, r_lt, r_le, r_gt, r_ge, r_not, r_int, r_isi_int_d, r_isi_bool_d, r_isi_list_d, r_isi_tuple_d, r_isi_int_own, r_isi_bool_own, r_isi_list_own, r_isi_tuple_own, r_isi_int_brw, r_isi_bool_brw, r_isi_list_brw, r_isi_tuple_brw, r_isi_exc, r_isi_val, r_isNone_d, r_isNone_own, r_max2, r_min2, r_ls_d, r_ls_own, r_low_int, r_pf_own, r_pf_d, r_it_d, r_it_own, r_it_dt, r_it_brw, numW, qW, q2W, d_map0, d_map1, d_app0, d_app1, d_get0, d_get1, d_set0, d_set1, d_rep0, d_rep1, d_len0, d_len1, d_omap, d_obind, d_ct, d_cf, d_nt, d_nf, d_fand, d_tand, d_op, Nat.reduceSub, Nat.reduceAdd]
    generalize c.fmod 16 = d at *
    have kk : d = 10 ∨ d = 11 ∨ d = 12 ∨ d = 13 ∨ d = 14 ∨ d = 15 := by omega
    rcases kk with rfl | rfl | rfl | rfl | rfl | rfl
    all_goals rw [r_idx_ownl (by decide) (by decide)]
    all_goals refine q _ _ rfl ?_ ?_
    · show 0 < lim; rw [lim_eq]; decide
    · rfl
    · show ((List.replicate 11 (ofInts cs)).flatten).length < lim
      rw [List.length_flatten]; simp [length_ofInts]; rw [lim_eq]; omega
    · show okC (.list (List.replicate 11 (ofInts cs)).flatten) = false
      have : ¬ ((List.replicate 11 (ofInts cs)).flatten).length ≤ 10 := by
        rw [List.length_flatten]; simp [length_ofInts]; omega
      simp only [okC, decide_eq_false this, Bool.and_false, Bool.false_and]
    all_goals first | exact trivial | rfl

theorem shaped_ints (cs : List Int) : SeqAt.shaped (.list (ofInts cs)) = true := by
  have h1 : ∀ cs : List Int, PyData.canLayAll0 (ofInts cs) = true := fun cs => by
    induction cs with
    | nil => simp [ofInts, PyData.canLayAll0]
    | cons a l ih => simp only [ofInts, List.map_cons] at ih ⊢; simp [PyData.canLayAll0, PyData.canLay0, ih]
  have h2 : ∀ cs : List Int, PyData.depthAll (ofInts cs) ≤ 1 := fun cs => by
    induction cs with
    | nil => simp [ofInts, PyData.depthAll]
    | cons a l ih => simp only [ofInts, List.map_cons] at ih ⊢; simp [PyData.depthAll, PyData.depth]; omega
  have := h2 cs
  unfold SeqAt.shaped
  simp [PyData.canLay0, h1, PyData.depth]; omega
theorem eqv_ints : ∀ a : List Int, PyData.eqvAll (ofInts a) (ofInts a) = true
  | [] => by simp [ofInts, PyData.eqvAll]
  | x :: a => by
    have := eqv_ints a
    simp only [ofInts, List.map_cons] at this ⊢
    simp [PyData.eqvAll, PyData.eqv, this]
theorem eqD_ints (cs : List Int) : eqD (.list (ofInts cs)) (.list (ofInts cs)) = some true := by
  unfold eqD; simp only [shaped_ints, Bool.and_true, if_true]; simp [PyData.eqv, eqv_ints]
theorem eqD_pair (a b : Int) : eqD (.tuple [.int a, .int b]) (.tuple [.int a, .int b]) = some true := by
  unfold eqD; simp only [shaped_pair, Bool.and_true, if_true]; simp [PyData.eqv, PyData.eqvAll]
theorem r_nel (cs : List Int) : Op.ev .ne (.d (.list (ofInts cs))) (.d (.list (ofInts cs))) = some (.d (.bool false)) := by
  show (eqD (.list (ofInts cs)) (.list (ofInts cs))).map (fun b => V.d (.bool !b)) = _
  rw [eqD_ints]; rfl
theorem r_eql (cs : List Int) : Op.ev .eq (.d (.list (ofInts cs))) (.d (.list (ofInts cs))) = some (.d (.bool true)) := by
  show (eqD (.list (ofInts cs)) (.list (ofInts cs))).map (fun b => V.d (.bool b)) = _
  rw [eqD_ints]; rfl
theorem r_nep (a b : Int) : Op.ev .ne (.d (.tuple [.int a, .int b])) (.ot [(false, .int a), (false, .int b)]) = some (.d (.bool false)) := by
  show (eqD (.tuple [.int a, .int b]) (.tuple [.int a, .int b])).map (fun b => V.d (.bool !b)) = _
  rw [eqD_pair]; rfl
theorem eqD_str {s : Str} (h : PyData.strOk s = true) : eqD (.list [.str s]) (.list [.str s]) = some true := by
  have : SeqAt.shaped (.list [.str s]) = true := by unfold SeqAt.shaped; simp [PyData.canLay0, PyData.canLayAll0, PyData.depth, PyData.depthAll, h]
  unfold eqD; simp only [this, Bool.and_true, if_true]; simp [PyData.eqv, PyData.eqvAll]
theorem r_nes {s : Str} (h : PyData.strOk s = true) : Op.ev .ne (.own (.list [.str s])) (.own (.list [.str s])) = some (.d (.bool false)) := by
  show (eqD (.list [.str s]) (.list [.str s])).map (fun b => V.d (.bool !b)) = _
  rw [eqD_str h]; rfl
theorem r_eqs {s : Str} (h : PyData.strOk s = true) : Op.ev .eq (.own (.list [.str s])) (.own (.list [.str s])) = some (.d (.bool true)) := by
  show (eqD (.list [.str s]) (.list [.str s])).map (fun b => V.d (.bool b)) = _
  rw [eqD_str h]; rfl
theorem r_all2 : F1.ev .all (.own (.list [.bool true, .bool true])) = some (.d (.bool true)) := rfl

theorem law_spec (ht : tab = tab01) (sc : List Int) (hs : sc.length < 64) (hb : ∀ x ∈ sc, Sml x) (q : K (.d (.bool true))) : wpCall tab (n + 8) false 15 [.d (.list (ofInts sc))] K X := by
  have t0 : tab[0]? = some f_is_among := by rw [ht]; rfl
  have t1 : tab[1]? = some f_need_counts := by rw [ht]; rfl
  have t2 : tab[2]? = some f_want_of := by rw [ht]; rfl
  have t3 : tab[3]? = some f_wanted := by rw [ht]; rfl
  have t4 : tab[4]? = some f__law_cell := by rw [ht]; rfl
  have t5 : tab[5]? = some f__law_mixed := by rw [ht]; rfl
  have t6 : tab[6]? = some f__law_whole := by rw [ht]; rfl
  have t7 : tab[7]? = some f__law_web := by rw [ht]; rfl
  have t8 : tab[8]? = some f__law_counts := by rw [ht]; rfl
  have t9 : tab[9]? = some f__law_drawn := by rw [ht]; rfl
  have t10 : tab[10]? = some f__law_wanted := by rw [ht]; rfl
  have t11 : tab[11]? = some f__law_kind := by rw [ht]; rfl
  have t12 : tab[12]? = some f__law_no_counts := by rw [ht]; rfl
  have t13 : tab[13]? = some f__law_told := by rw [ht]; rfl
  have t14 : tab[14]? = some f__law_needed := by rw [ht]; rfl
  have t15 : tab[15]? = some f_law := by rw [ht]; rfl
  have ks : PyData.strOk (Str.ofString "many") = true := by decide +kernel
  have kc : PyData.strOk (Str.ofString "counts") = true := by decide +kernel
  refine wpCall_in t15 rfl (by decide) ?_
  dsimp only [f_law, b_law, wpSs, wpS, wpE, wpEs, wpAnd, wpOr, wpC, wpSrc, wpSrcL, slot, F1.quiet, Ty.has, keepAll, partsF, frz, bindF, isNon, setAll, okRet, r_got, r_rd_d, r_rd_own, r_rd_brw, r_rd_ot, r_nm_d, r_nm_own, r_nm_brw, r_nm_exc, r_nm_ot, r_arg_d, r_arg_own, r_arg_brw, r_arg_exc, r_arg_ot, r_keep_d, r_keep_ownt, r_keep_ownf, r_keep_ott, r_keep_otf, r_kp_d, r_kp_own, r_kp_ot, r_ret_d, r_ret_own, r_ret_ot, r_ifB, r_add, r_sub, r_lt, r_le, r_gt, r_ge, r_not, r_int, r_isi_int_d, r_isi_bool_d, r_isi_list_d, r_isi_tuple_d, r_isi_int_own, r_isi_bool_own, r_isi_list_own, r_isi_tuple_own, r_isi_int_brw, r_isi_bool_brw, r_isi_list_brw, r_isi_tuple_brw, r_isi_exc, r_isi_val, r_isNone_d, r_isNone_own, r_max2, r_min2, r_ls_d, r_ls_own, r_low_int, r_pf_own, r_pf_d, r_it_d, r_it_own, r_it_dt, r_it_brw, numW, qW, q2W, d_map0, d_map1, d_app0, d_app1, d_get0, d_get1, d_set0, d_set1, d_rep0, d_rep1, d_len0, d_len1, d_omap, d_obind, d_ct, d_cf, d_nt, d_nf, d_fand, d_tand, d_op, Nat.reduceSub, Nat.reduceAdd]
  refine drawn_spec t9 t7 t8 t4 t5 sc hs hb 1 10 (by decide) (by decide) (by decide) fun cs hc => ?_
  have l0 := hc.1
  have l1 := hc.2.1
  have l2 := lenOk_cts hc
  dsimp only [wpSs, wpS, wpE, wpEs, wpAnd, wpOr, wpC, wpSrc, wpSrcL, slot, F1.quiet, Ty.has, keepAll, partsF, frz, bindF, isNon, setAll, okRet, r_got, r_rd_d, r_rd_own, r_rd_brw, r_rd_ot, r_nm_d, r_nm_own, r_nm_brw, r_nm_exc, r_nm_ot, r_arg_d, r_arg_own, r_arg_brw, r_arg_exc, r_arg_ot, r_keep_d, r_keep_ownt, r_keep_ownf, r_keep_ott, r_keep_otf, r_kp_d, r_kp_own, r_kp_ot, r_ret_d, r_ret_own, r_ret_ot, r_ifB, r_add, r_sub, r_lt, r_le, r_gt, r_ge, r_not, r_int, r_isi_int_d, r_isi_bool_d, r_isi_list_d, r_isi_tuple_d, r_isi_int_own, r_isi_bool_own, r_isi_list_own, r_isi_tuple_own, r_isi_int_brw, r_isi_bool_brw, r_isi_list_brw, r_isi_tuple_brw, r_isi_exc, r_isi_val, r_isNone_d, r_isNone_own, r_max2, r_min2, r_ls_d, r_ls_own, r_low_int, r_pf_own, r_pf_d, r_it_d, r_it_own, r_it_dt, r_it_brw, numW, qW, q2W, d_map0, d_map1, d_app0, d_app1, d_get0, d_get1, d_set0, d_set1, d_rep0, d_rep1, d_len0, d_len1, d_omap, d_obind, d_ct, d_cf, d_nt, d_nf, d_fand, d_tand, d_op, Nat.reduceSub, Nat.reduceAdd]
  rw [list_spec l2]
  dsimp only [wpSs, wpS, wpE, wpEs, wpAnd, wpOr, wpC, wpSrc, wpSrcL, slot, F1.quiet, Ty.has, keepAll, partsF, frz, bindF, isNon, setAll, okRet, r_got, r_rd_d, r_rd_own, r_rd_brw, r_rd_ot, r_nm_d, r_nm_own, r_nm_brw, r_nm_exc, r_nm_ot, r_arg_d, r_arg_own, r_arg_brw, r_arg_exc, r_arg_ot, r_keep_d, r_keep_ownt, r_keep_ownf, r_keep_ott, r_keep_otf, r_kp_d, r_kp_own, r_kp_ot, r_ret_d, r_ret_own, r_ret_ot, r_ifB, r_add, r_sub, r_lt, r_le, r_gt, r_ge, r_not, r_int, r_isi_int_d, r_isi_bool_d, r_isi_list_d, r_isi_tuple_d, r_isi_int_own, r_isi_bool_own, r_isi_list_own, r_isi_tuple_own, r_isi_int_brw, r_isi_bool_brw, r_isi_list_brw, r_isi_tuple_brw, r_isi_exc, r_isi_val, r_isNone_d, r_isNone_own, r_max2, r_min2, r_ls_d, r_ls_own, r_low_int, r_pf_own, r_pf_d, r_it_d, r_it_own, r_it_dt, r_it_brw, numW, qW, q2W, d_map0, d_map1, d_app0, d_app1, d_get0, d_get1, d_set0, d_set1, d_rep0, d_rep1, d_len0, d_len1, d_omap, d_obind, d_ct, d_cf, d_nt, d_nf, d_fand, d_tand, d_op, Nat.reduceSub, Nat.reduceAdd]
  rw [r_len_d l2, length_ofInts]
  refine ⟨rfl, by rw [lim_eq]; omega, by rw [lim_eq]; omega, ?_⟩
  refine forW_idx _ (fun i ρ => ∃ a3 a4, ρ = [some (V.d (.list (ofInts sc))), some (V.d (.list (ofInts cs))), some (V.d (.list (ofInts cs))), a3, a4, none, none]) ?_ ?_ _ ⟨none, none, rfl⟩
  · rintro ρ ⟨a3, a4, rfl⟩
    dsimp only [b_law_2, wpSs, wpS, wpE, wpEs, wpAnd, wpOr, wpC, wpSrc, wpSrcL, slot, F1.quiet, Ty.has, keepAll, partsF, frz, bindF, isNon, setAll, okRet, r_got, r_rd_d, r_rd_own, r_rd_brw, r_rd_ot, r_nm_d, r_nm_own, r_nm_brw, r_nm_exc, r_nm_ot, r_arg_d, r_arg_own, r_arg_brw, r_arg_exc, r_arg_ot, r_keep_d, r_keep_ownt, r_keep_ownf, r_keep_ott, r_keep_otf, r_kp_d, r_kp_own, r_kp_ot, r_ret_d, r_ret_own, r_ret_ot, r_ifB, r_add, r_sub, r_lt, r_le, r_gt, r_ge, r_not, r_int, r_isi_int_d, r_isi_bool_d, r_isi_list_d, r_isi_tuple_d, r_isi_int_own, r_isi_bool_own, r_isi_list_own, r_isi_tuple_own, r_isi_int_brw, r_isi_bool_brw, r_isi_list_brw, r_isi_tuple_brw, r_isi_exc, r_isi_val, r_isNone_d, r_isNone_own, r_max2, r_min2, r_ls_d, r_ls_own, r_low_int, r_pf_own, r_pf_d, r_it_d, r_it_own, r_it_dt, r_it_brw, numW, qW, q2W, d_map0, d_map1, d_app0, d_app1, d_get0, d_get1, d_set0, d_set1, d_rep0, d_rep1, d_len0, d_len1, d_omap, d_obind, d_ct, d_cf, d_nt, d_nf, d_fand, d_tand, d_op, Nat.reduceSub, Nat.reduceAdd]
    refine cell_spec t4 sc 0 hs (by decide) (by decide) ?_
    refine mixed_spec t5 _ 1 (mulOk_small (j := 1) (cell_sml hb 0) (by decide)) ?_
    generalize mixed _ _ = ch
    have v0 := fmod_nonneg' (a := ch.fdiv 8) (b := 8) (by omega)
    have v1 := fmod_lt' (a := ch.fdiv 8) (b := 8) (by omega)
    have u0 := fmod_nonneg' (a := ch.fdiv 64) (b := 1000000000) (by omega)
    dsimp only [wpSs, wpS, wpE, wpEs, wpAnd, wpOr, wpC, wpSrc, wpSrcL, slot, F1.quiet, Ty.has, keepAll, partsF, frz, bindF, isNon, setAll, okRet, r_got, r_rd_d, r_rd_own, r_rd_brw, r_rd_ot, r_nm_d, r_nm_own, r_nm_brw, r_nm_exc, r_nm_ot, r_arg_d, r_arg_own, r_arg_brw, r_arg_exc, r_arg_ot, r_keep_d, r_keep_ownt, r_keep_ownf, r_keep_ott, r_keep_otf, r_kp_d, r_kp_own, r_kp_ot, r_ret_d, r_ret_own, r_ret_ot, r_ifB, r_add, r_sub, r_lt, r_le, r_gt, r_ge, r_not, r_int, r_isi_int_d, r_isi_bool_d, r_isi_list_d, r_isi_tuple_d, r_isi_int_own, r_isi_bool_own, r_isi_list_own, r_isi_tuple_own, r_isi_int_brw, r_isi_bool_brw, r_isi_list_brw, r_isi_tuple_brw, r_isi_exc, r_isi_val, r_isNone_d, r_isNone_own, r_max2, r_min2, r_ls_d, r_ls_own, r_low_int, r_pf_own, r_pf_d, r_it_d, r_it_own, r_it_dt, r_it_brw, numW, qW, q2W, d_map0, d_map1, d_app0, d_app1, d_get0, d_get1, d_set0, d_set1, d_rep0, d_rep1, d_len0, d_len1, d_omap, d_obind, d_ct, d_cf, d_nt, d_nf, d_fand, d_tand, d_op, Nat.reduceSub, Nat.reduceAdd]
    rw [r_len_d l2, length_ofInts]
    refine ⟨⟨by decide, by decide⟩, by decide, ⟨by decide, by decide⟩, by decide, ?_⟩
    generalize (ch.fdiv 64).fmod 1000000000 = big at *
    generalize (ch.fdiv 8).fmod 8 = r at *
    obtain ⟨y, ho, hy⟩ : ∃ y : PyData, ([PyData.int (-1), PyData.int (cs.length + 1), PyData.bool true, PyData.none, PyData.str (Str.ofString "1"), PyData.list [PyData.int 1], PyData.int (cs.length + big + 1), PyData.bool false] : List PyData)[r.toNat]? = some y ∧ amongB y 0 cs.length = false := by
      have kk : r = 0 ∨ r = 1 ∨ r = 2 ∨ r = 3 ∨ r = 4 ∨ r = 5 ∨ r = 6 ∨ r = 7 := by omega
      rcases kk with rfl | rfl | rfl | rfl | rfl | rfl | rfl | rfl
      all_goals first
        | exact ⟨_, rfl, rfl⟩
        | (refine ⟨_, rfl, ?_⟩; simp [amongB]; omega)
        | (refine ⟨_, rfl, ?_⟩; simp [amongB])
    dsimp only [wpSs, wpS, wpE, wpEs, wpAnd, wpOr, wpC, wpSrc, wpSrcL, slot, F1.quiet, Ty.has, keepAll, partsF, frz, bindF, isNon, setAll, okRet, r_got, r_rd_d, r_rd_own, r_rd_brw, r_rd_ot, r_nm_d, r_nm_own, r_nm_brw, r_nm_exc, r_nm_ot, r_arg_d, r_arg_own, r_arg_brw, r_arg_exc, r_arg_ot, r_keep_d, r_keep_ownt, r_keep_ownf, r_keep_ott, r_keep_otf, r_kp_d, r_kp_own, r_kp_ot, r_ret_d, r_ret_own, r_ret_ot, r_ifB, r_add, r_sub, r_lt, r_le, r_gt, r_ge, r_not, r_int, r_isi_int_d, r_isi_bool_d, r_isi_list_d, r_isi_tuple_d, r_isi_int_own, r_isi_bool_own, r_isi_list_own, r_isi_tuple_own, r_isi_int_brw, r_isi_bool_brw, r_isi_list_brw, r_isi_tuple_brw, r_isi_exc, r_isi_val, r_isNone_d, r_isNone_own, r_max2, r_min2, r_ls_d, r_ls_own, r_low_int, r_pf_own, r_pf_d, r_it_d, r_it_own, r_it_dt, r_it_brw, numW, qW, q2W, d_map0, d_map1, d_app0, d_app1, d_get0, d_get1, d_set0, d_set1, d_rep0, d_rep1, d_len0, d_len1, d_omap, d_obind, d_ct, d_cf, d_nt, d_nf, d_fand, d_tand, d_op, Nat.reduceSub, Nat.reduceAdd]
    rw [r_idx_ownl v0 (by omega), ho]
    refine ⟨⟨by decide, by decide⟩, ?_⟩
    refine no_counts_spec t12 hc _ fun u w hk hl hw => ?_
    rw [hk]
    dsimp only [wpSs, wpS, wpE, wpEs, wpAnd, wpOr, wpC, wpSrc, wpSrcL, slot, F1.quiet, Ty.has, keepAll, partsF, frz, bindF, isNon, setAll, okRet, r_got, r_rd_d, r_rd_own, r_rd_brw, r_rd_ot, r_nm_d, r_nm_own, r_nm_brw, r_nm_exc, r_nm_ot, r_arg_d, r_arg_own, r_arg_brw, r_arg_exc, r_arg_ot, r_keep_d, r_keep_ownt, r_keep_ownf, r_keep_ott, r_keep_otf, r_kp_d, r_kp_own, r_kp_ot, r_ret_d, r_ret_own, r_ret_ot, r_ifB, r_add, r_sub, r_lt, r_le, r_gt, r_ge, r_not, r_int, r_isi_int_d, r_isi_bool_d, r_isi_list_d, r_isi_tuple_d, r_isi_int_own, r_isi_bool_own, r_isi_list_own, r_isi_tuple_own, r_isi_int_brw, r_isi_bool_brw, r_isi_list_brw, r_isi_tuple_brw, r_isi_exc, r_isi_val, r_isNone_d, r_isNone_own, r_max2, r_min2, r_ls_d, r_ls_own, r_low_int, r_pf_own, r_pf_d, r_it_d, r_it_own, r_it_dt, r_it_brw, numW, qW, q2W, d_map0, d_map1, d_app0, d_app1, d_get0, d_get1, d_set0, d_set1, d_rep0, d_rep1, d_len0, d_len1, d_omap, d_obind, d_ct, d_cf, d_nt, d_nf, d_fand, d_tand, d_op, Nat.reduceSub, Nat.reduceAdd]
    refine told_many t13 t3 t0 t1 t11 hc y hy ?_
    refine opW_other rfl ?_
    rw [r_nes ks]
    dsimp only [wpSs, wpS, wpE, wpEs, wpAnd, wpOr, wpC, wpSrc, wpSrcL, slot, F1.quiet, Ty.has, keepAll, partsF, frz, bindF, isNon, setAll, okRet, r_got, r_rd_d, r_rd_own, r_rd_brw, r_rd_ot, r_nm_d, r_nm_own, r_nm_brw, r_nm_exc, r_nm_ot, r_arg_d, r_arg_own, r_arg_brw, r_arg_exc, r_arg_ot, r_keep_d, r_keep_ownt, r_keep_ownf, r_keep_ott, r_keep_otf, r_kp_d, r_kp_own, r_kp_ot, r_ret_d, r_ret_own, r_ret_ot, r_ifB, r_add, r_sub, r_lt, r_le, r_gt, r_ge, r_not, r_int, r_isi_int_d, r_isi_bool_d, r_isi_list_d, r_isi_tuple_d, r_isi_int_own, r_isi_bool_own, r_isi_list_own, r_isi_tuple_own, r_isi_int_brw, r_isi_bool_brw, r_isi_list_brw, r_isi_tuple_brw, r_isi_exc, r_isi_val, r_isNone_d, r_isNone_own, r_max2, r_min2, r_ls_d, r_ls_own, r_low_int, r_pf_own, r_pf_d, r_it_d, r_it_own, r_it_dt, r_it_brw, numW, qW, q2W, d_map0, d_map1, d_app0, d_app1, d_get0, d_get1, d_set0, d_set1, d_rep0, d_rep1, d_len0, d_len1, d_omap, d_obind, d_ct, d_cf, d_nt, d_nf, d_fand, d_tand, d_op, Nat.reduceSub, Nat.reduceAdd]
    refine told_counts t13 t3 t0 t1 t11 w y hl hw ?_
    refine opW_other rfl ?_
    rw [r_nes kc]
    dsimp only [wpSs, wpS, wpE, wpEs, wpAnd, wpOr, wpC, wpSrc, wpSrcL, slot, F1.quiet, Ty.has, keepAll, partsF, frz, bindF, isNon, setAll, okRet, r_got, r_rd_d, r_rd_own, r_rd_brw, r_rd_ot, r_nm_d, r_nm_own, r_nm_brw, r_nm_exc, r_nm_ot, r_arg_d, r_arg_own, r_arg_brw, r_arg_exc, r_arg_ot, r_keep_d, r_keep_ownt, r_keep_ownf, r_keep_ott, r_keep_otf, r_kp_d, r_kp_own, r_kp_ot, r_ret_d, r_ret_own, r_ret_ot, r_ifB, r_add, r_sub, r_lt, r_le, r_gt, r_ge, r_not, r_int, r_isi_int_d, r_isi_bool_d, r_isi_list_d, r_isi_tuple_d, r_isi_int_own, r_isi_bool_own, r_isi_list_own, r_isi_tuple_own, r_isi_int_brw, r_isi_bool_brw, r_isi_list_brw, r_isi_tuple_brw, r_isi_exc, r_isi_val, r_isNone_d, r_isNone_own, r_max2, r_min2, r_ls_d, r_ls_own, r_low_int, r_pf_own, r_pf_d, r_it_d, r_it_own, r_it_dt, r_it_brw, numW, qW, q2W, d_map0, d_map1, d_app0, d_app1, d_get0, d_get1, d_set0, d_set1, d_rep0, d_rep1, d_len0, d_len1, d_omap, d_obind, d_ct, d_cf, d_nt, d_nf, d_fand, d_tand, d_op, Nat.reduceSub, Nat.reduceAdd]
    refine needed_good t14 t0 t1 hc ?_
    dsimp only [wpSs, wpS, wpE, wpEs, wpAnd, wpOr, wpC, wpSrc, wpSrcL, slot, F1.quiet, Ty.has, keepAll, partsF, frz, bindF, isNon, setAll, okRet, r_got, r_rd_d, r_rd_own, r_rd_brw, r_rd_ot, r_nm_d, r_nm_own, r_nm_brw, r_nm_exc, r_nm_ot, r_arg_d, r_arg_own, r_arg_brw, r_arg_exc, r_arg_ot, r_keep_d, r_keep_ownt, r_keep_ownf, r_keep_ott, r_keep_otf, r_kp_d, r_kp_own, r_kp_ot, r_ret_d, r_ret_own, r_ret_ot, r_ifB, r_add, r_sub, r_lt, r_le, r_gt, r_ge, r_not, r_int, r_isi_int_d, r_isi_bool_d, r_isi_list_d, r_isi_tuple_d, r_isi_int_own, r_isi_bool_own, r_isi_list_own, r_isi_tuple_own, r_isi_int_brw, r_isi_bool_brw, r_isi_list_brw, r_isi_tuple_brw, r_isi_exc, r_isi_val, r_isNone_d, r_isNone_own, r_max2, r_min2, r_ls_d, r_ls_own, r_low_int, r_pf_own, r_pf_d, r_it_d, r_it_own, r_it_dt, r_it_brw, numW, qW, q2W, d_map0, d_map1, d_app0, d_app1, d_get0, d_get1, d_set0, d_set1, d_rep0, d_rep1, d_len0, d_len1, d_omap, d_obind, d_ct, d_cf, d_nt, d_nf, d_fand, d_tand, d_op, Nat.reduceSub, Nat.reduceAdd]
    refine needed_counts t14 t0 t1 t11 w hl hw ?_
    refine opW_other rfl ?_
    rw [r_eqs kc]
    dsimp only [wpSs, wpS, wpE, wpEs, wpAnd, wpOr, wpC, wpSrc, wpSrcL, slot, F1.quiet, Ty.has, keepAll, partsF, frz, bindF, isNon, setAll, okRet, r_got, r_rd_d, r_rd_own, r_rd_brw, r_rd_ot, r_nm_d, r_nm_own, r_nm_brw, r_nm_exc, r_nm_ot, r_arg_d, r_arg_own, r_arg_brw, r_arg_exc, r_arg_ot, r_keep_d, r_keep_ownt, r_keep_ownf, r_keep_ott, r_keep_otf, r_kp_d, r_kp_own, r_kp_ot, r_ret_d, r_ret_own, r_ret_ot, r_ifB, r_add, r_sub, r_lt, r_le, r_gt, r_ge, r_not, r_int, r_isi_int_d, r_isi_bool_d, r_isi_list_d, r_isi_tuple_d, r_isi_int_own, r_isi_bool_own, r_isi_list_own, r_isi_tuple_own, r_isi_int_brw, r_isi_bool_brw, r_isi_list_brw, r_isi_tuple_brw, r_isi_exc, r_isi_val, r_isNone_d, r_isNone_own, r_max2, r_min2, r_ls_d, r_ls_own, r_low_int, r_pf_own, r_pf_d, r_it_d, r_it_own, r_it_dt, r_it_brw, numW, qW, q2W, d_map0, d_map1, d_app0, d_app1, d_get0, d_get1, d_set0, d_set1, d_rep0, d_rep1, d_len0, d_len1, d_omap, d_obind, d_ct, d_cf, d_nt, d_nf, d_fand, d_tand, d_op, Nat.reduceSub, Nat.reduceAdd]
    refine opW_other rfl ?_
    rw [r_eql]
    exact q
  · rintro i hi ρ k ⟨a3, a4, rfl⟩ cont _
    have hi' : i ≤ cs.length := by rw [List.length_map, rngL_length] at hi; omega
    rw [List.getElem_map, rngL_get]
    dsimp only [b_law_1, wpSs, wpS, wpE, wpEs, wpAnd, wpOr, wpC, wpSrc, wpSrcL, slot, F1.quiet, Ty.has, keepAll, partsF, frz, bindF, isNon, setAll, okRet, r_got, r_rd_d, r_rd_own, r_rd_brw, r_rd_ot, r_nm_d, r_nm_own, r_nm_brw, r_nm_exc, r_nm_ot, r_arg_d, r_arg_own, r_arg_brw, r_arg_exc, r_arg_ot, r_keep_d, r_keep_ownt, r_keep_ownf, r_keep_ott, r_keep_otf, r_kp_d, r_kp_own, r_kp_ot, r_ret_d, r_ret_own, r_ret_ot, r_ifB, r_add, r_sub, r_lt, r_le, r_gt, r_ge, r_not, r_int, r_isi_int_d, r_isi_bool_d, r_isi_list_d, r_isi_tuple_d, r_isi_int_own, r_isi_bool_own, r_isi_list_own, r_isi_tuple_own, r_isi_int_brw, r_isi_bool_brw, r_isi_list_brw, r_isi_tuple_brw, r_isi_exc, r_isi_val, r_isNone_d, r_isNone_own, r_max2, r_min2, r_ls_d, r_ls_own, r_low_int, r_pf_own, r_pf_d, r_it_d, r_it_own, r_it_dt, r_it_brw, numW, qW, q2W, d_map0, d_map1, d_app0, d_app1, d_get0, d_get1, d_set0, d_set1, d_rep0, d_rep1, d_len0, d_len1, d_omap, d_obind, d_ct, d_cf, d_nt, d_nf, d_fand, d_tand, d_op, Nat.reduceSub, Nat.reduceAdd]
    refine told_good t13 t3 t0 t1 t2 hc i hi' ?_
    dsimp only [wpSs, wpS, wpE, wpEs, wpAnd, wpOr, wpC, wpSrc, wpSrcL, slot, F1.quiet, Ty.has, keepAll, partsF, frz, bindF, isNon, setAll, okRet, r_got, r_rd_d, r_rd_own, r_rd_brw, r_rd_ot, r_nm_d, r_nm_own, r_nm_brw, r_nm_exc, r_nm_ot, r_arg_d, r_arg_own, r_arg_brw, r_arg_exc, r_arg_ot, r_keep_d, r_keep_ownt, r_keep_ownf, r_keep_ott, r_keep_otf, r_kp_d, r_kp_own, r_kp_ot, r_ret_d, r_ret_own, r_ret_ot, r_ifB, r_add, r_sub, r_lt, r_le, r_gt, r_ge, r_not, r_int, r_isi_int_d, r_isi_bool_d, r_isi_list_d, r_isi_tuple_d, r_isi_int_own, r_isi_bool_own, r_isi_list_own, r_isi_tuple_own, r_isi_int_brw, r_isi_bool_brw, r_isi_list_brw, r_isi_tuple_brw, r_isi_exc, r_isi_val, r_isNone_d, r_isNone_own, r_max2, r_min2, r_ls_d, r_ls_own, r_low_int, r_pf_own, r_pf_d, r_it_d, r_it_own, r_it_dt, r_it_brw, numW, qW, q2W, d_map0, d_map1, d_app0, d_app1, d_get0, d_get1, d_set0, d_set1, d_rep0, d_rep1, d_len0, d_len1, d_omap, d_obind, d_ct, d_cf, d_nt, d_nf, d_fand, d_tand, d_op, Nat.reduceSub, Nat.reduceAdd]
    refine ⟨lim_lt (by exact (by decide : 2 < 1000)), ?_⟩
    dsimp only [wpSs, wpS, wpE, wpEs, wpAnd, wpOr, wpC, wpSrc, wpSrcL, slot, F1.quiet, Ty.has, keepAll, partsF, frz, bindF, isNon, setAll, okRet, r_got, r_rd_d, r_rd_own, r_rd_brw, r_rd_ot, r_nm_d, r_nm_own, r_nm_brw, r_nm_exc, r_nm_ot, r_arg_d, r_arg_own, r_arg_brw, r_arg_exc, r_arg_ot, r_keep_d, r_keep_ownt, r_keep_ownf, r_keep_ott, r_keep_otf, r_kp_d, r_kp_own, r_kp_ot, r_ret_d, r_ret_own, r_ret_ot, r_ifB, r_add, r_sub, r_lt, r_le, r_gt, r_ge, r_not, r_int, r_isi_int_d, r_isi_bool_d, r_isi_list_d, r_isi_tuple_d, r_isi_int_own, r_isi_bool_own, r_isi_list_own, r_isi_tuple_own, r_isi_int_brw, r_isi_bool_brw, r_isi_list_brw, r_isi_tuple_brw, r_isi_exc, r_isi_val, r_isNone_d, r_isNone_own, r_max2, r_min2, r_ls_d, r_ls_own, r_low_int, r_pf_own, r_pf_d, r_it_d, r_it_own, r_it_dt, r_it_brw, numW, qW, q2W, d_map0, d_map1, d_app0, d_app1, d_get0, d_get1, d_set0, d_set1, d_rep0, d_rep1, d_len0, d_len1, d_omap, d_obind, d_ct, d_cf, d_nt, d_nf, d_fand, d_tand, d_op, Nat.reduceSub, Nat.reduceAdd, compW, bindT]
    refine whole_spec t6 _ ?_
    dsimp only [wpSs, wpS, wpE, wpEs, wpAnd, wpOr, wpC, wpSrc, wpSrcL, slot, F1.quiet, Ty.has, keepAll, partsF, frz, bindF, isNon, setAll, okRet, r_got, r_rd_d, r_rd_own, r_rd_brw, r_rd_ot, r_nm_d, r_nm_own, r_nm_brw, r_nm_exc, r_nm_ot, r_arg_d, r_arg_own, r_arg_brw, r_arg_exc, r_arg_ot, r_keep_d, r_keep_ownt, r_keep_ownf, r_keep_ott, r_keep_otf, r_kp_d, r_kp_own, r_kp_ot, r_ret_d, r_ret_own, r_ret_ot, r_ifB, r_add, r_sub, r_lt, r_le, r_gt, r_ge, r_not, r_int, r_isi_int_d, r_isi_bool_d, r_isi_list_d, r_isi_tuple_d, r_isi_int_own, r_isi_bool_own, r_isi_list_own, r_isi_tuple_own, r_isi_int_brw, r_isi_bool_brw, r_isi_list_brw, r_isi_tuple_brw, r_isi_exc, r_isi_val, r_isNone_d, r_isNone_own, r_max2, r_min2, r_ls_d, r_ls_own, r_low_int, r_pf_own, r_pf_d, r_it_d, r_it_own, r_it_dt, r_it_brw, numW, qW, q2W, d_map0, d_map1, d_app0, d_app1, d_get0, d_get1, d_set0, d_set1, d_rep0, d_rep1, d_len0, d_len1, d_omap, d_obind, d_ct, d_cf, d_nt, d_nf, d_fand, d_tand, d_op, Nat.reduceSub, Nat.reduceAdd]
    refine whole_spec t6 _ ?_
    dsimp only [wpSs, wpS, wpE, wpEs, wpAnd, wpOr, wpC, wpSrc, wpSrcL, slot, F1.quiet, Ty.has, keepAll, partsF, frz, bindF, isNon, setAll, okRet, r_got, r_rd_d, r_rd_own, r_rd_brw, r_rd_ot, r_nm_d, r_nm_own, r_nm_brw, r_nm_exc, r_nm_ot, r_arg_d, r_arg_own, r_arg_brw, r_arg_exc, r_arg_ot, r_keep_d, r_keep_ownt, r_keep_ownf, r_keep_ott, r_keep_otf, r_kp_d, r_kp_own, r_kp_ot, r_ret_d, r_ret_own, r_ret_ot, r_ifB, r_add, r_sub, r_lt, r_le, r_gt, r_ge, r_not, r_int, r_isi_int_d, r_isi_bool_d, r_isi_list_d, r_isi_tuple_d, r_isi_int_own, r_isi_bool_own, r_isi_list_own, r_isi_tuple_own, r_isi_int_brw, r_isi_bool_brw, r_isi_list_brw, r_isi_tuple_brw, r_isi_exc, r_isi_val, r_isNone_d, r_isNone_own, r_max2, r_min2, r_ls_d, r_ls_own, r_low_int, r_pf_own, r_pf_d, r_it_d, r_it_own, r_it_dt, r_it_brw, numW, qW, q2W, d_map0, d_map1, d_app0, d_app1, d_get0, d_get1, d_set0, d_set1, d_rep0, d_rep1, d_len0, d_len1, d_omap, d_obind, d_ct, d_cf, d_nt, d_nf, d_fand, d_tand, d_op, Nat.reduceSub, Nat.reduceAdd]
    refine ⟨lim_lt (by exact (by decide : 2 < 1000)), ?_⟩
    dsimp only [wpSs, wpS, wpE, wpEs, wpAnd, wpOr, wpC, wpSrc, wpSrcL, slot, F1.quiet, Ty.has, keepAll, partsF, frz, bindF, isNon, setAll, okRet, r_got, r_rd_d, r_rd_own, r_rd_brw, r_rd_ot, r_nm_d, r_nm_own, r_nm_brw, r_nm_exc, r_nm_ot, r_arg_d, r_arg_own, r_arg_brw, r_arg_exc, r_arg_ot, r_keep_d, r_keep_ownt, r_keep_ownf, r_keep_ott, r_keep_otf, r_kp_d, r_kp_own, r_kp_ot, r_ret_d, r_ret_own, r_ret_ot, r_ifB, r_add, r_sub, r_lt, r_le, r_gt, r_ge, r_not, r_int, r_isi_int_d, r_isi_bool_d, r_isi_list_d, r_isi_tuple_d, r_isi_int_own, r_isi_bool_own, r_isi_list_own, r_isi_tuple_own, r_isi_int_brw, r_isi_bool_brw, r_isi_list_brw, r_isi_tuple_brw, r_isi_exc, r_isi_val, r_isNone_d, r_isNone_own, r_max2, r_min2, r_ls_d, r_ls_own, r_low_int, r_pf_own, r_pf_d, r_it_d, r_it_own, r_it_dt, r_it_brw, numW, qW, q2W, d_map0, d_map1, d_app0, d_app1, d_get0, d_get1, d_set0, d_set1, d_rep0, d_rep1, d_len0, d_len1, d_omap, d_obind, d_ct, d_cf, d_nt, d_nf, d_fand, d_tand, d_op, Nat.reduceSub, Nat.reduceAdd, wholeB, r_all2]
    refine opW_other rfl ?_
    rw [r_nel]
    dsimp only [wpSs, wpS, wpE, wpEs, wpAnd, wpOr, wpC, wpSrc, wpSrcL, slot, F1.quiet, Ty.has, keepAll, partsF, frz, bindF, isNon, setAll, okRet, r_got, r_rd_d, r_rd_own, r_rd_brw, r_rd_ot, r_nm_d, r_nm_own, r_nm_brw, r_nm_exc, r_nm_ot, r_arg_d, r_arg_own, r_arg_brw, r_arg_exc, r_arg_ot, r_keep_d, r_keep_ownt, r_keep_ownf, r_keep_ott, r_keep_otf, r_kp_d, r_kp_own, r_kp_ot, r_ret_d, r_ret_own, r_ret_ot, r_ifB, r_add, r_sub, r_lt, r_le, r_gt, r_ge, r_not, r_int, r_isi_int_d, r_isi_bool_d, r_isi_list_d, r_isi_tuple_d, r_isi_int_own, r_isi_bool_own, r_isi_list_own, r_isi_tuple_own, r_isi_int_brw, r_isi_bool_brw, r_isi_list_brw, r_isi_tuple_brw, r_isi_exc, r_isi_val, r_isNone_d, r_isNone_own, r_max2, r_min2, r_ls_d, r_ls_own, r_low_int, r_pf_own, r_pf_d, r_it_d, r_it_own, r_it_dt, r_it_brw, numW, qW, q2W, d_map0, d_map1, d_app0, d_app1, d_get0, d_get1, d_set0, d_set1, d_rep0, d_rep1, d_len0, d_len1, d_omap, d_obind, d_ct, d_cf, d_nt, d_nf, d_fand, d_tand, d_op, Nat.reduceSub, Nat.reduceAdd]
    refine law_wanted_spec t10 cs (by omega) i hi' ?_
    refine opW_other rfl ?_
    rw [r_nep]
    exact cont _ ⟨_, _, rfl⟩
end
end TC

namespace TC
open PySem PySem.W PyProof.Rows
noncomputable def K01 (P : Params) : Frag := [
  (3, Obj.mk (Value.type "dict") none (Data.dict #[DictEntry.mk (PyData.keyHash P (Str.ofString "__name__")) (Value.str (Str.ofString "__name__") 165) (Value.str (Str.ofString "law_uf040017_01") 340), DictEntry.mk (PyData.keyHash P (Str.ofString "__doc__")) (Value.str (Str.ofString "__doc__") 166) Value.none, DictEntry.mk (PyData.keyHash P (Str.ofString "__package__")) (Value.str (Str.ofString "__package__") 167) Value.none, DictEntry.mk (PyData.keyHash P (Str.ofString "__loader__")) (Value.str (Str.ofString "__loader__") 168) (Value.builtin "__main__.__loader__#opaque"), DictEntry.mk (PyData.keyHash P (Str.ofString "__spec__")) (Value.str (Str.ofString "__spec__") 169) Value.none, DictEntry.mk (PyData.keyHash P (Str.ofString "__annotations__")) (Value.str (Str.ofString "__annotations__") 170) (Value.ref 6), DictEntry.mk (PyData.keyHash P (Str.ofString "__builtins__")) (Value.str (Str.ofString "__builtins__") 171) (Value.ref 4), DictEntry.mk (PyData.keyHash P (Str.ofString "__file__")) (Value.str (Str.ofString "__file__") 173) (Value.str (Str.ofString "/claim/cut.py") 172), DictEntry.mk (PyData.keyHash P (Str.ofString "__cached__")) (Value.str (Str.ofString "__cached__") 174) Value.none, DictEntry.mk (PyData.keyHash P (Str.ofString "TieError")) (Value.str (Str.ofString "TieError") 206) (Value.ref 24), DictEntry.mk (PyData.keyHash P (Str.ofString "BadCounts")) (Value.str (Str.ofString "BadCounts") 222) (Value.ref 37), DictEntry.mk (PyData.keyHash P (Str.ofString "BadMany")) (Value.str (Str.ofString "BadMany") 238) (Value.ref 49), DictEntry.mk (PyData.keyHash P (Str.ofString "BadWeb")) (Value.str (Str.ofString "BadWeb") 254) (Value.ref 61), DictEntry.mk (PyData.keyHash P (Str.ofString "BadExchange")) (Value.str (Str.ofString "BadExchange") 270) (Value.ref 73), DictEntry.mk (PyData.keyHash P (Str.ofString "Unlike")) (Value.str (Str.ofString "Unlike") 286) (Value.ref 85), DictEntry.mk (PyData.keyHash P (Str.ofString "NoWeb")) (Value.str (Str.ofString "NoWeb") 302) (Value.ref 97), DictEntry.mk (PyData.keyHash P (Str.ofString "MOST_POINTS")) (Value.str (Str.ofString "MOST_POINTS") 306) (Value.int 10 305), DictEntry.mk (PyData.keyHash P (Str.ofString "MOST_COUNT")) (Value.str (Str.ofString "MOST_COUNT") 308) (Value.int 20 307), DictEntry.mk (PyData.keyHash P (Str.ofString "is_among")) (Value.str (Str.ofString "is_among") 317) (Value.ref 106), DictEntry.mk (PyData.keyHash P (Str.ofString "need_counts")) (Value.str (Str.ofString "need_counts") 325) (Value.ref 113), DictEntry.mk (PyData.keyHash P (Str.ofString "want_of")) (Value.str (Str.ofString "want_of") 331) (Value.ref 118), DictEntry.mk (PyData.keyHash P (Str.ofString "wanted")) (Value.str (Str.ofString "wanted") 339) (Value.ref 125), DictEntry.mk (PyData.keyHash P (Str.ofString "_law_cell")) (Value.str (Str.ofString "_law_cell") 349) (Value.ref 132), DictEntry.mk (PyData.keyHash P (Str.ofString "_law_mixed")) (Value.str (Str.ofString "_law_mixed") 358) (Value.ref 139), DictEntry.mk (PyData.keyHash P (Str.ofString "_law_whole")) (Value.str (Str.ofString "_law_whole") 365) (Value.ref 146), DictEntry.mk (PyData.keyHash P (Str.ofString "_law_web")) (Value.str (Str.ofString "_law_web") 382) (Value.ref 153), DictEntry.mk (PyData.keyHash P (Str.ofString "_law_counts")) (Value.str (Str.ofString "_law_counts") 388) (Value.ref 158), DictEntry.mk (PyData.keyHash P (Str.ofString "_law_drawn")) (Value.str (Str.ofString "_law_drawn") 394) (Value.ref 163), DictEntry.mk (PyData.keyHash P (Str.ofString "_law_wanted")) (Value.str (Str.ofString "_law_wanted") 408) (Value.ref 170), DictEntry.mk (PyData.keyHash P (Str.ofString "_law_kind")) (Value.str (Str.ofString "_law_kind") 414) (Value.ref 175), DictEntry.mk (PyData.keyHash P (Str.ofString "_law_no_counts")) (Value.str (Str.ofString "_law_no_counts") 424) (Value.ref 182), DictEntry.mk (PyData.keyHash P (Str.ofString "_law_told")) (Value.str (Str.ofString "_law_told") 433) (Value.ref 189), DictEntry.mk (PyData.keyHash P (Str.ofString "_law_needed")) (Value.str (Str.ofString "_law_needed") 441) (Value.ref 196), DictEntry.mk (PyData.keyHash P (Str.ofString "law")) (Value.str (Str.ofString "law") 447) (Value.ref 201)] 34) #[]),
  (23, Obj.mk (Value.type "dict") none (Data.dict #[DictEntry.mk (PyData.keyHash P (Str.ofString "__module__")) (Value.str (Str.ofString "__module__") 196) (Value.str (Str.ofString "tiecount.errors") 187), DictEntry.mk (PyData.keyHash P (Str.ofString "__firstlineno__")) (Value.str (Str.ofString "__firstlineno__") 200) (Value.int 2 199), DictEntry.mk (PyData.keyHash P (Str.ofString "__static_attributes__")) (Value.str (Str.ofString "__static_attributes__") 201) (Value.ref 22), DictEntry.mk (PyData.keyHash P (Str.ofString "__weakref__")) (Value.str (Str.ofString "__weakref__") 203) (Value.ref 25), DictEntry.mk (PyData.keyHash P (Str.ofString "__doc__")) (Value.str (Str.ofString "__doc__") 204) Value.none] 3) #[]),
  (24, Obj.mk (Value.type "type") none (Data.cls (ClassData.mk (Str.ofString "TieError") [Value.type "ValueError"] [Value.ref 24, Value.type "ValueError", Value.type "Exception", Value.type "BaseException", Value.type "object"] 23 (Str.ofString "TieError") true [] [Value.ref 37, Value.ref 49, Value.ref 61, Value.ref 73, Value.ref 85, Value.ref 97] false none false)) #[some (Value.ref 15), none, some (Value.str (Str.ofString "TieError") 189), some (Value.str (Str.ofString "TieError") 197), some (Value.builtin "ValueError.__new__"), some (Value.bool true)]),
  (36, Obj.mk (Value.type "dict") none (Data.dict #[DictEntry.mk (PyData.keyHash P (Str.ofString "__module__")) (Value.str (Str.ofString "__module__") 214) (Value.str (Str.ofString "tiecount.errors") 187), DictEntry.mk (PyData.keyHash P (Str.ofString "__firstlineno__")) (Value.str (Str.ofString "__firstlineno__") 218) (Value.int 4 217), DictEntry.mk (PyData.keyHash P (Str.ofString "__static_attributes__")) (Value.str (Str.ofString "__static_attributes__") 219) (Value.ref 35), DictEntry.mk (PyData.keyHash P (Str.ofString "__doc__")) (Value.str (Str.ofString "__doc__") 220) Value.none] 2) #[]),
  (37, Obj.mk (Value.type "type") none (Data.cls (ClassData.mk (Str.ofString "BadCounts") [Value.ref 24] [Value.ref 37, Value.ref 24, Value.type "ValueError", Value.type "Exception", Value.type "BaseException", Value.type "object"] 36 (Str.ofString "BadCounts") true [] [] false none false)) #[some (Value.ref 28), none, some (Value.str (Str.ofString "BadCounts") 207), some (Value.str (Str.ofString "BadCounts") 215), some (Value.builtin "ValueError.__new__"), some (Value.bool true)]),
  (48, Obj.mk (Value.type "dict") none (Data.dict #[DictEntry.mk (PyData.keyHash P (Str.ofString "__module__")) (Value.str (Str.ofString "__module__") 230) (Value.str (Str.ofString "tiecount.errors") 187), DictEntry.mk (PyData.keyHash P (Str.ofString "__firstlineno__")) (Value.str (Str.ofString "__firstlineno__") 234) (Value.int 6 233), DictEntry.mk (PyData.keyHash P (Str.ofString "__static_attributes__")) (Value.str (Str.ofString "__static_attributes__") 235) (Value.ref 47), DictEntry.mk (PyData.keyHash P (Str.ofString "__doc__")) (Value.str (Str.ofString "__doc__") 236) Value.none] 2) #[]),
  (49, Obj.mk (Value.type "type") none (Data.cls (ClassData.mk (Str.ofString "BadMany") [Value.ref 24] [Value.ref 49, Value.ref 24, Value.type "ValueError", Value.type "Exception", Value.type "BaseException", Value.type "object"] 48 (Str.ofString "BadMany") true [] [] false none false)) #[some (Value.ref 40), none, some (Value.str (Str.ofString "BadMany") 223), some (Value.str (Str.ofString "BadMany") 231), some (Value.builtin "ValueError.__new__"), some (Value.bool true)]),
  (60, Obj.mk (Value.type "dict") none (Data.dict #[DictEntry.mk (PyData.keyHash P (Str.ofString "__module__")) (Value.str (Str.ofString "__module__") 246) (Value.str (Str.ofString "tiecount.errors") 187), DictEntry.mk (PyData.keyHash P (Str.ofString "__firstlineno__")) (Value.str (Str.ofString "__firstlineno__") 250) (Value.int 8 249), DictEntry.mk (PyData.keyHash P (Str.ofString "__static_attributes__")) (Value.str (Str.ofString "__static_attributes__") 251) (Value.ref 59), DictEntry.mk (PyData.keyHash P (Str.ofString "__doc__")) (Value.str (Str.ofString "__doc__") 252) Value.none] 2) #[]),
  (61, Obj.mk (Value.type "type") none (Data.cls (ClassData.mk (Str.ofString "BadWeb") [Value.ref 24] [Value.ref 61, Value.ref 24, Value.type "ValueError", Value.type "Exception", Value.type "BaseException", Value.type "object"] 60 (Str.ofString "BadWeb") true [] [] false none false)) #[some (Value.ref 52), none, some (Value.str (Str.ofString "BadWeb") 239), some (Value.str (Str.ofString "BadWeb") 247), some (Value.builtin "ValueError.__new__"), some (Value.bool true)]),
  (72, Obj.mk (Value.type "dict") none (Data.dict #[DictEntry.mk (PyData.keyHash P (Str.ofString "__module__")) (Value.str (Str.ofString "__module__") 262) (Value.str (Str.ofString "tiecount.errors") 187), DictEntry.mk (PyData.keyHash P (Str.ofString "__firstlineno__")) (Value.str (Str.ofString "__firstlineno__") 266) (Value.int 10 265), DictEntry.mk (PyData.keyHash P (Str.ofString "__static_attributes__")) (Value.str (Str.ofString "__static_attributes__") 267) (Value.ref 71), DictEntry.mk (PyData.keyHash P (Str.ofString "__doc__")) (Value.str (Str.ofString "__doc__") 268) Value.none] 2) #[]),
  (73, Obj.mk (Value.type "type") none (Data.cls (ClassData.mk (Str.ofString "BadExchange") [Value.ref 24] [Value.ref 73, Value.ref 24, Value.type "ValueError", Value.type "Exception", Value.type "BaseException", Value.type "object"] 72 (Str.ofString "BadExchange") true [] [] false none false)) #[some (Value.ref 64), none, some (Value.str (Str.ofString "BadExchange") 255), some (Value.str (Str.ofString "BadExchange") 263), some (Value.builtin "ValueError.__new__"), some (Value.bool true)]),
  (84, Obj.mk (Value.type "dict") none (Data.dict #[DictEntry.mk (PyData.keyHash P (Str.ofString "__module__")) (Value.str (Str.ofString "__module__") 278) (Value.str (Str.ofString "tiecount.errors") 187), DictEntry.mk (PyData.keyHash P (Str.ofString "__firstlineno__")) (Value.str (Str.ofString "__firstlineno__") 282) (Value.int 12 281), DictEntry.mk (PyData.keyHash P (Str.ofString "__static_attributes__")) (Value.str (Str.ofString "__static_attributes__") 283) (Value.ref 83), DictEntry.mk (PyData.keyHash P (Str.ofString "__doc__")) (Value.str (Str.ofString "__doc__") 284) Value.none] 2) #[]),
  (85, Obj.mk (Value.type "type") none (Data.cls (ClassData.mk (Str.ofString "Unlike") [Value.ref 24] [Value.ref 85, Value.ref 24, Value.type "ValueError", Value.type "Exception", Value.type "BaseException", Value.type "object"] 84 (Str.ofString "Unlike") true [] [] false none false)) #[some (Value.ref 76), none, some (Value.str (Str.ofString "Unlike") 271), some (Value.str (Str.ofString "Unlike") 279), some (Value.builtin "ValueError.__new__"), some (Value.bool true)]),
  (96, Obj.mk (Value.type "dict") none (Data.dict #[DictEntry.mk (PyData.keyHash P (Str.ofString "__module__")) (Value.str (Str.ofString "__module__") 294) (Value.str (Str.ofString "tiecount.errors") 187), DictEntry.mk (PyData.keyHash P (Str.ofString "__firstlineno__")) (Value.str (Str.ofString "__firstlineno__") 298) (Value.int 14 297), DictEntry.mk (PyData.keyHash P (Str.ofString "__static_attributes__")) (Value.str (Str.ofString "__static_attributes__") 299) (Value.ref 95), DictEntry.mk (PyData.keyHash P (Str.ofString "__doc__")) (Value.str (Str.ofString "__doc__") 300) Value.none] 2) #[]),
  (97, Obj.mk (Value.type "type") none (Data.cls (ClassData.mk (Str.ofString "NoWeb") [Value.ref 24] [Value.ref 97, Value.ref 24, Value.type "ValueError", Value.type "Exception", Value.type "BaseException", Value.type "object"] 96 (Str.ofString "NoWeb") true [] [] false none false)) #[some (Value.ref 88), none, some (Value.str (Str.ofString "NoWeb") 287), some (Value.str (Str.ofString "NoWeb") 295), some (Value.builtin "ValueError.__new__"), some (Value.bool true)])]
noncomputable def fn01 : List Str := ["is_among", "need_counts", "want_of", "wanted", "_law_cell", "_law_mixed", "_law_whole", "_law_web", "_law_counts", "_law_drawn", "_law_wanted", "_law_kind", "_law_no_counts", "_law_told", "_law_needed", "law"]
noncomputable def fa01 : List Addr := [106, 113, 118, 125, 132, 139, 146, 153, 158, 163, 170, 175, 182, 189, 196, 201]
noncomputable def cn01 : List Str := ["TieError", "BadCounts", "BadMany", "BadWeb", "BadExchange", "Unlike", "NoWeb"]
noncomputable def ca01 : List Addr := [24, 37, 49, 61, 73, 85, 97]
noncomputable def cst01 : List (Str × Int) := [("MOST_POINTS", 10), ("MOST_COUNT", 20)]

end TC

open PySem PySem.W PyProof.Rows
set_option maxRecDepth 100000 in
set_option maxHeartbeats 8000000 in
theorem PySem.Challenge.cw_uf040017_01_holds : PySem.Challenge.rw_uf040017_01.Holds := by
  w_on
  o_law
  o_head (kHook TC.K01 [3, 23, 24, 36, 37, 48, 49, 60, 61, 72, 73, 84, 85, 96, 97] (fun _ => rfl))
  (case hw => w_witness2)
  intro w s₀ s₁ mg mb G Y fa o pm cd doc dV kV ho hd hcd hD hmg hg args vals as hpre hlay hrd hwl hlo
  have KX := kIn_of Y
  refine Ground.open G ?_
  intro T B D TE TW
  have efa : Value.ref fa = Value.ref 201 := Option.some.inj (hmg.symm.trans (mg_of KX T.g (show nsIn _ mainGlobals "law" = some (some (.ref 201)) by kernel_rfl)))
  have efa := Value.ref.inj efa
  subst efa
  clear hd hcd hD hmg ho
  wrow_args hpre hlay hrd hwl hlo
  rename_i sc _ _ hL _ _ _ _ _ _ _ _ _ W _ _ _ hlen _
  refine enter_call ?_
  refine TC.law_ends (TC.gl_ok TC.fn01 TC.fa01 TC.cn01 TC.ca01 TC.cst01 TC.tab01 [] KX T ?ckq ?coq rfl rfl rfl ?foq) rfl (f := 15) rfl W hg ?wq ?nq ?pq
  case ckq => kernel_rfl
  case coq => kernel_rfl
  case foq =>
    intro k x f h1 h2
    match k, h1, h2 with
    | 0, h1, h2 =>
      cases h1; cases h2
      exact ⟨[], by kernel_rfl, by kernel_rfl, by kernel_rfl, fun pm code doc vals h => by
        match vals, h with
        | [a, b, c], _ => kernel_rfl⟩
    | 1, h1, h2 =>
      cases h1; cases h2
      exact ⟨[], by kernel_rfl, by kernel_rfl, by kernel_rfl, fun pm code doc vals h => by
        match vals, h with
        | [a], _ => kernel_rfl⟩
    | 2, h1, h2 =>
      cases h1; cases h2
      exact ⟨[], by kernel_rfl, by kernel_rfl, by kernel_rfl, fun pm code doc vals h => by
        match vals, h with
        | [a, b], _ => kernel_rfl⟩
    | 3, h1, h2 =>
      cases h1; cases h2
      exact ⟨[], by kernel_rfl, by kernel_rfl, by kernel_rfl, fun pm code doc vals h => by
        match vals, h with
        | [a, b], _ => kernel_rfl⟩
    | 4, h1, h2 =>
      cases h1; cases h2
      exact ⟨[], by kernel_rfl, by kernel_rfl, by kernel_rfl, fun pm code doc vals h => by
        match vals, h with
        | [a, b], _ => kernel_rfl⟩
    | 5, h1, h2 =>
      cases h1; cases h2
      exact ⟨[], by kernel_rfl, by kernel_rfl, by kernel_rfl, fun pm code doc vals h => by
        match vals, h with
        | [a, b], _ => kernel_rfl⟩
    | 6, h1, h2 =>
      cases h1; cases h2
      exact ⟨[], by kernel_rfl, by kernel_rfl, by kernel_rfl, fun pm code doc vals h => by
        match vals, h with
        | [a], _ => kernel_rfl⟩
    | 7, h1, h2 =>
      cases h1; cases h2
      exact ⟨[5], by kernel_rfl, by kernel_rfl, by kernel_rfl, fun pm code doc vals h => by
        match vals, h with
        | [a, b, c], _ => kernel_rfl⟩
    | 8, h1, h2 =>
      cases h1; cases h2
      exact ⟨[], by kernel_rfl, by kernel_rfl, by kernel_rfl, fun pm code doc vals h => by
        match vals, h with
        | [a, b], _ => kernel_rfl⟩
    | 9, h1, h2 =>
      cases h1; cases h2
      exact ⟨[5], by kernel_rfl, by kernel_rfl, by kernel_rfl, fun pm code doc vals h => by
        match vals, h with
        | [a, b, c], _ => kernel_rfl⟩
    | 10, h1, h2 =>
      cases h1; cases h2
      exact ⟨[2], by kernel_rfl, by kernel_rfl, by kernel_rfl, fun pm code doc vals h => by
        match vals, h with
        | [a, b], _ => kernel_rfl⟩
    | 11, h1, h2 =>
      cases h1; cases h2
      exact ⟨[], by kernel_rfl, by kernel_rfl, by kernel_rfl, fun pm code doc vals h => by
        match vals, h with
        | [a], _ => kernel_rfl⟩
    | 12, h1, h2 =>
      cases h1; cases h2
      exact ⟨[], by kernel_rfl, by kernel_rfl, by kernel_rfl, fun pm code doc vals h => by
        match vals, h with
        | [a, b], _ => kernel_rfl⟩
    | 13, h1, h2 =>
      cases h1; cases h2
      exact ⟨[], by kernel_rfl, by kernel_rfl, by kernel_rfl, fun pm code doc vals h => by
        match vals, h with
        | [a, b], _ => kernel_rfl⟩
    | 14, h1, h2 =>
      cases h1; cases h2
      exact ⟨[], by kernel_rfl, by kernel_rfl, by kernel_rfl, fun pm code doc vals h => by
        match vals, h with
        | [a], _ => kernel_rfl⟩
    | 15, h1, h2 =>
      cases h1; cases h2
      exact ⟨[], by kernel_rfl, by kernel_rfl, by kernel_rfl, fun pm code doc vals h => by
        match vals, h with
        | [a], _ => kernel_rfl⟩
    | n + 16, h1, h2 => cases h1
  case wq =>
    refine TC.law_spec rfl sc ?_ ?_ rfl
    · omega
    · intro x hx
      exact intBits_le_of_item hx hL
  case nq => exact raisesW_false (by wrow_none_raised)
  case pq => wrow_post
