import PyProof.Rows.All
import Wide.All
import OpenK.AllK
import Wide.FinOn
import HandS.ForMost
import HandS.Exc
import HandS.ExcOwn
import HandS.WordsExc
import HandS.IsInst
import HandS.Wide
import HandS.Gcd
import HandS.TupAny
import KE.GoesEnum
import HandS.Style
import HandS.WideBits
import HandS.SortInts
import HandS.Set
import HandS.SetFor
import HandS.More
import HandS.Ends
import KE.KExcSuper
import KE.KSuper
import HandS.ExcInit
import HandS.TryMany
import HandS.ExcField
import HandS.Conv
import HandS.Flow
import PySem.Challenge.RW_throwntrue_k01_die_edits
set_option Elab.async false
set_option linter.all false
set_option maxRecDepth 100000
/-! PDCore: plain values, a store of lists, and what each construct of the text asks (weakest conditions), without the machine. -/
namespace PD
open PySem

/-- a value as data; a list that is changed is told by its place in the store, one that is only read (the script) by what it holds (wtup: a tuple that a walk gives, to be taken apart; exv: a caught exception at a, its dict at d, its fields) -/
inductive D where
  | non | bl (b : Bool) | int (i : Int) | str (x : Str) | tup (xs : List D) | rol (xs : List D) | loc (a : Nat) | wtup (xs : List D) | exv (a d : Nat) (ns : List Str) (xs : List D)

/-- what stands in the store: a list -/
inductive O where
  | lst (xs : List D)

abbrev Sto := Nat → Option O
def put (μ : Sto) (a : Nat) (o : O) : Sto := fun b => if b = a then some o else μ b
theorem put_same {μ : Sto} {a : Nat} {o : O} : put μ a o a = some o := if_pos rfl
theorem put_ne {μ : Sto} {a b : Nat} {o : O} (h : b ≠ a) : put μ a o b = μ b := if_neg h
def lstAt (μ : Sto) (p : Nat) : Option (List D) := match μ p with
  | some (.lst xs) => some xs
  | none => none
theorem lstAt_some {μ : Sto} {p : Nat} {xs : List D} (h : lstAt μ p = some xs) : μ p = some (.lst xs) := by
  unfold lstAt at h
  split at h
  · rename_i e; rw [e]; cases h; rfl
  · cases h
theorem lstAt_of {μ : Sto} {p : Nat} {xs : List D} (h : μ p = some (.lst xs)) : lstAt μ p = some xs := by
  unfold lstAt; rw [h]
theorem lstAt_put {μ : Sto} {p : Nat} {xs : List D} : lstAt (put μ p (.lst xs)) p = some xs := lstAt_of put_same
theorem lstAt_ne {μ : Sto} {p q : Nat} {o : O} (h : p ≠ q) : lstAt (put μ q o) p = lstAt μ p := by
  unfold lstAt; rw [put_ne h]
theorem put_put {μ : Sto} {a : Nat} {o u : O} : put (put μ a o) a u = put μ a u := by
  funext b; unfold put; split <;> rfl
/-- all of the first stands in the second -/
def Sub (μ μ' : Sto) : Prop := ∀ a o, μ a = some o → μ' a = some o
theorem Sub.refl (μ : Sto) : Sub μ μ := fun _ _ h => h
theorem Sub.trans {a b c : Sto} (h : Sub a b) (k : Sub b c) : Sub a c := fun x o e => k x o (h x o e)
theorem Sub.new {μ μ' : Sto} {p : Nat} {o : O} (h : Sub μ μ') (n : μ' p = none) : Sub μ (put μ' p o) := fun a u e => by
  have : a ≠ p := by intro q; subst q; rw [h _ _ e] at n; cases n
  rw [put_ne this]; exact h a u e
theorem Sub.loc {μ μ' : Sto} {p : Nat} {o : O} (h : Sub μ μ') (n : μ p = none) : Sub μ (put μ' p o) := fun a u e => by
  have : a ≠ p := by intro q; subst q; rw [n] at e; cases e
  rw [put_ne this]; exact h a u e

abbrev Ev := List (Option D)
def look : Ev → Nat → Option D
  | [], _ => none
  | x :: _, 0 => x
  | _ :: r, n + 1 => look r n
def setE : Ev → Nat → Option D → Ev
  | [], _, _ => []
  | _ :: r, 0, d => d :: r
  | x :: r, n + 1, d => x :: setE r n d

/-- an exception: its class's name, its fields -/
structure Ex where
  cls : Str
  fs : List (Str × D)

abbrev QE := D → Sto → Prop
abbrev QX := Ex → Sto → Prop
abbrev QB := Bool → Sto → Prop
abbrev QA := List D → Sto → Prop
abbrev DE := Ev → Sto → QE → QX → Prop
abbrev DT := Ev → Sto → QB → QX → Prop
abbrev DA := Ev → Sto → QA → QX → Prop
abbrev U1 := D → Sto → QE → Prop
abbrev U2 := D → D → Sto → QE → Prop
abbrev UA := List D → Sto → QE → Prop
/-- a def's promise -/
abbrev Pr := List D → Sto → QE → QX → Prop
structure DK where
  nx : Ev → Sto → Prop
  rt : D → Sto → Prop
  bk : Ev → Sto → Prop
  ct : Ev → Sto → Prop
  ex : Ex → Ev → Sto → Prop
abbrev DS := DK → Ev → Sto → Prop
/-- a target -/
abbrev DG := D → Ev → Sto → (Ev → Sto → Prop) → QX → Prop

def opt {α : Type} (o : Option α) (k : α → Prop) : Prop := match o with
  | some a => k a
  | none => False
@[simp] theorem opt_some {α : Type} {a : α} {k : α → Prop} : opt (some a) k = k a := rfl
@[simp] theorem opt_none {α : Type} {k : α → Prop} : opt (none : Option α) k = False := rfl
theorem opt_mono {α : Type} {o : Option α} {k k' : α → Prop} (h : ∀ a, k a → k' a) (x : opt o k) : opt o k' := by
  cases o with
  | none => exact x
  | some a => exact h a x

/-! ### expressions -/
def dVar (i : Nat) : DE := fun ρ μ Q _ => opt (look ρ i) fun d => Q d μ
def dC (d : D) : DE := fun _ μ Q _ => Q d μ
def d1 (g : U1) (ta : DE) : DE := fun ρ μ Q E => ta ρ μ (fun x μ1 => g x μ1 Q) E
def d2 (g : U2) (ta tb : DE) : DE := fun ρ μ Q E => ta ρ μ (fun x μ1 => tb ρ μ1 (fun y μ2 => g x y μ2 Q) E) E
def dNil : DA := fun _ μ Q _ => Q [] μ
def dCons (ta : DE) (tr : DA) : DA := fun ρ μ Q E => ta ρ μ (fun x μ1 => tr ρ μ1 (fun xs μ2 => Q (x :: xs) μ2) E) E
def dArgs (g : UA) (t : DA) : DE := fun ρ μ Q E => t ρ μ (fun xs μ1 => g xs μ1 Q) E
def dCall (pr : Pr) (t : DA) : DE := fun ρ μ Q E => t ρ μ (fun ds μ1 => pr ds μ1 Q E) E
def asB (Q : QB) : QE := fun x μ => match x with
  | .bl b => Q b μ
  | _ => False
@[simp] theorem asB_bl {Q : QB} {b : Bool} {μ : Sto} : asB Q (.bl b) μ = Q b μ := rfl
def dTest (t : DE) : DT := fun ρ μ Q E => t ρ μ (asB Q) E
def dAndT (t u : DT) : DT := fun ρ μ Q E => t ρ μ (fun c μ1 => if c = true then u ρ μ1 Q E else Q false μ1) E
def dOrT (t u : DT) : DT := fun ρ μ Q E => t ρ μ (fun c μ1 => if c = true then Q true μ1 else u ρ μ1 Q E) E
def dNotT (t : DT) : DT := fun ρ μ Q E => t ρ μ (fun c μ1 => Q (!c) μ1) E
def dAndV (ta tb : DE) : DE := fun ρ μ Q E => ta ρ μ (asB fun c μ1 => if c = true then tb ρ μ1 Q E else Q (.bl false) μ1) E
def dOrV (ta tb : DE) : DE := fun ρ μ Q E => ta ρ μ (asB fun c μ1 => if c = true then Q (.bl true) μ1 else tb ρ μ1 Q E) E
def dNotV (ta : DE) : DE := fun ρ μ Q E => ta ρ μ (asB fun c μ1 => Q (.bl (!c)) μ1) E
def dIf (c : DT) (ta tb : DE) : DE := fun ρ μ Q E => c ρ μ (fun b μ1 => if b = true then ta ρ μ1 Q E else tb ρ μ1 Q E) E
def dChain (g h : U2) (ta tb tc : DE) : DE := fun ρ μ Q E => ta ρ μ (fun x μ1 => tb ρ μ1 (fun y μ2 => g x y μ2 (asB fun k μ3 => if k = true then tc ρ μ3 (fun z μ4 => h y z μ4 Q) E else Q (.bl false) μ3)) E) E

/-- the most that a list, a tuple, a text may hold -/
def LINE : Nat := 16777216
def dTup (t : DA) : DE := fun ρ μ Q E => t ρ μ (fun xs μ1 => xs.length ≤ LINE ∧ Q (.tup xs) μ1) E
def dLst (t : DA) : DE := fun ρ μ Q E => t ρ μ (fun xs μ1 => xs.length ≤ LINE ∧ ∀ p, μ1 p = none → Q (.loc p) (put μ1 p (.lst xs))) E

/-! ### statements -/
def sNext : DS := fun K ρ μ => K.nx ρ μ
def sSeq (t u : DS) : DS := fun K ρ μ => t { K with nx := u K } ρ μ
def sBreak : DS := fun K ρ μ => K.bk ρ μ
def sCont : DS := fun K ρ μ => K.ct ρ μ
def sDrop (t : DE) : DS := fun K ρ μ => t ρ μ (fun _ μ1 => K.nx ρ μ1) (fun x μ1 => K.ex x ρ μ1)
def sRet (t : DE) : DS := fun K ρ μ => t ρ μ K.rt (fun x μ1 => K.ex x ρ μ1)
def sRetN : DS := fun K _ μ => K.rt .non μ
def sIf (c : DT) (t u : DS) : DS := fun K ρ μ => c ρ μ (fun b μ1 => if b = true then t K ρ μ1 else u K ρ μ1) (fun x μ1 => K.ex x ρ μ1)
def sAsg (t : DE) (g : DG) : DS := fun K ρ μ => t ρ μ (fun d μ1 => g d ρ μ1 K.nx (fun x μ2 => K.ex x ρ μ2)) (fun x μ1 => K.ex x ρ μ1)
def sPar (i j : Nat) (ta tb : DE) : DS := fun K ρ μ => ta ρ μ (fun x μ1 => tb ρ μ1 (fun y μ2 => K.nx (setE (setE ρ i (some x)) j (some y)) μ2) (fun e μ2 => K.ex e ρ μ2)) (fun e μ1 => K.ex e ρ μ1)
def gName (i : Nat) : DG := fun d ρ μ Q _ => Q (setE ρ i (some d)) μ
/-- names out of a tuple -/
def gNames : List Nat → List D → Ev → Sto → (Ev → Sto → Prop) → Prop
  | [], [], ρ, μ, Q => Q ρ μ
  | i :: is, d :: ds, ρ, μ, Q => gNames is ds (setE ρ i (some d)) μ Q
  | _, _, _, _, _ => False
def gTup (is : List Nat) : DG := fun d ρ μ Q _ => match d with
  | .tup ds => gNames is ds ρ μ Q
  | .wtup ds => gNames is ds ρ μ Q
  | _ => False
/-- the place i of n, from behind if below 0 -/
def ixN (n : Nat) (i : Int) : Option Nat := if 0 ≤ i then (if i < n then some i.toNat else none) else if -(n : Int) ≤ i then some (i + n).toNat else none
def gSub (to ti : DE) : DG := fun v ρ μ Q E => to ρ μ (fun o μ1 => ti ρ μ1 (fun i μ2 => match o, i with
  | .loc p, .int k => opt (lstAt μ2 p) fun xs => opt (ixN xs.length k) fun j => Q ρ (put μ2 p (.lst (xs.set j v)))
  | _, _ => False) E) E

/-- a walk over values that are told ahead; G stands at each turn -/
def forW (G : Sto → Prop) (g : DG) (tb : DS) (K : DK) : List D → Ev → Sto → Prop
  | [], ρ, μ => G μ ∧ K.nx ρ μ
  | x :: xs, ρ, μ => G μ ∧ g x ρ μ (fun ρ1 μ1 => tb { K with nx := forW G g tb K xs, ct := forW G g tb K xs, bk := K.nx } ρ1 μ1) (fun e μ1 => K.ex e ρ μ1)
/-- what is walked: values, and what stands at each turn -/
abbrev DI := Ev → Sto → (List D → (Sto → Prop) → Sto → Prop) → QX → Prop
def sFor (wi : DI) (g : DG) (tb : DS) : DS := fun K ρ μ => wi ρ μ (fun xs G μ1 => forW G g tb K xs ρ μ1) (fun e μ1 => K.ex e ρ μ1)
def whileW (c : DT) (tb : DS) (K : DK) : Nat → Ev → Sto → Prop
  | 0, _, _ => False
  | n + 1, ρ, μ => c ρ μ (fun b μ1 => if b = true then tb { K with nx := whileW c tb K n, ct := whileW c tb K n, bk := K.nx } ρ μ1 else K.nx ρ μ1) (fun e μ1 => K.ex e ρ μ1)
def sWhile (c : DT) (tb : DS) : DS := fun K ρ μ => ∃ n, whileW c tb K n ρ μ
/-- a list or a tuple is walked -/
def wSeq (t : DE) : DI := fun ρ μ R E => t ρ μ (fun x μ1 => match x with
  | .tup xs => R xs (fun _ => True) μ1
  | .rol xs => R xs (fun _ => True) μ1
  | .loc p => opt (lstAt μ1 p) fun xs => R xs (fun μ' => lstAt μ' p = some xs) μ1
  | _ => False) E
def rangeL (lo : Int) (n : Nat) : List D := (List.range n).map fun (k : Nat) => D.int (lo + k)
def wRng1 (t : DE) : DI := fun ρ μ R E => t ρ μ (fun x μ1 => match x with
  | .int j => (-(2 ^ 62) ≤ j ∧ j < 2 ^ 62) ∧ R (rangeL 0 j.toNat) (fun _ => True) μ1
  | _ => False) E
def wRng2 (t u : DE) : DI := fun ρ μ R E => t ρ μ (fun x μ1 => u ρ μ1 (fun y μ2 => match x, y with
  | .int i, .int j => (-(2 ^ 62) ≤ i ∧ i < 2 ^ 62 ∧ -(2 ^ 62) ≤ j ∧ j < 2 ^ 62) ∧ R (rangeL i (j - i).toNat) (fun _ => True) μ2
  | _, _ => False) E) E
def enumL : List D → Nat → List D
  | [], _ => []
  | x :: r, i => .wtup [.int i, x] :: enumL r (i + 1)
def wEnum (t : DE) : DI := fun ρ μ R E => wSeq t ρ μ (fun xs G μ1 => R (enumL xs 0) G μ1) E
/-- a comprehension -/
def wipeE : Ev → List Nat → Ev
  | ρ, [] => ρ
  | ρ, v :: vs => setE (wipeE ρ vs) v none
def lcW (G : Sto → Prop) (g : DG) (tt : DT) (te : DE) (ρ0 : Ev) (p : Nat) (Q : Sto → Prop) : List D → Sto → Prop
  | [], μ => G μ ∧ Q μ
  | x :: xs, μ => G μ ∧ g x ρ0 μ (fun ρ1 μ1 => tt ρ1 μ1 (fun b μ2 => if b = true then te ρ1 μ2 (fun y μ3 => opt (lstAt μ3 p) fun acc => acc.length < LINE ∧ lcW G g tt te ρ0 p Q xs (put μ3 p (.lst (acc ++ [y])))) (fun _ _ => False) else lcW G g tt te ρ0 p Q xs μ2) (fun _ _ => False)) (fun _ _ => False)
def dLc (wi : DI) (g : DG) (tt : DT) (te : DE) (vs : List Nat) : DE := fun ρ μ Q E => wi ρ μ (fun xs G μ1 => ∀ p, μ1 p = none → lcW G g tt te (wipeE ρ vs) p (Q (.loc p)) xs (put μ1 p (.lst []))) E
def tYes : DT := fun _ μ Q _ => Q true μ

/-! ### exceptions -/
/-- raise C(..): the class's name, its fields in the parameters' order -/
def sRaise (cn : Str) (fs : List Str) (t : DA) : DS := fun K ρ μ => t ρ μ (fun ds μ1 => ds.length = fs.length ∧ K.ex ⟨cn, (fs.zip ds).reverse⟩ ρ μ1) (fun x μ1 => K.ex x ρ μ1)
/-- a clause: its class's name, the slot of its name, its suite (by the exception's place, its dict's) -/
abbrev DCl := Str × Option Nat × (Nat → Nat → DS)
def goneE (i : Option Nat) (ρ : Ev) : Ev := match i with
  | none => ρ
  | some i => setE ρ i none
def boundE (i : Option Nat) (d : D) (ρ : Ev) : Ev := match i with
  | none => ρ
  | some i => setE ρ i (some d)
def exD (x : Ex) (a d : Nat) : D := .exv a d (x.fs.map (·.1)) (x.fs.map (·.2))
/-- what an exception of the body asks: the clauses one after the other; isa tells whether a class is a clause's -/
def catchW (isa : Str → Str → Option Bool) (K : DK) (x : Ex) : List DCl → Ev → Sto → Prop
  | [], ρ, μ => K.ex x ρ μ
  | (n, i, sd) :: r, ρ, μ => match isa x.cls n with
    | some true => ∀ a d, sd a d { nx := fun ρ1 μ1 => K.nx (goneE i ρ1) μ1, rt := K.rt, bk := fun ρ1 μ1 => K.bk (goneE i ρ1) μ1, ct := fun ρ1 μ1 => K.ct (goneE i ρ1) μ1, ex := fun _ _ _ => False } (boundE i (exD x a d) ρ) μ
    | some false => catchW isa K x r ρ μ
    | none => False
def sTry (isa : Str → Str → Option Bool) (tb : DS) (hs : List DCl) : DS := fun K ρ μ => tb { K with ex := fun x ρ1 μ1 => catchW isa K x hs ρ1 μ1 } ρ μ
/-- a table of classes and clauses -/
def isaOf (L : List ((Str × Str) × Bool)) : Str → Str → Option Bool := fun x n => L.lookup (x, n)
/-- err.f in the suite of the exception at a, its dict at d -/
def fldR (a d : Nat) (f : Str) (Q : QE) (x : D) (μ : Sto) : Prop := match x with
  | .exv a' d' ns xs => (a' = a ∧ d' = d) ∧ opt ((ns.zip xs).lookup f) fun y => Q y μ
  | _ => False
def dFld (a d : Nat) (f : Str) (te : DE) : DE := fun ρ μ Q E => te ρ μ (fldR a d f Q) E

/-- a def's promise, by its body: what it lays besides may be forgotten -/
def prBody (n m : Nat) (body : DS) : Pr := fun ds μ Q E => ∃ (Q0 : QE) (E0 : QX), ds.length = n ∧
  body { nx := fun _ μ1 => Q0 .non μ1, rt := Q0, bk := fun _ _ => False, ct := fun _ _ => False, ex := fun x _ μ1 => E0 x μ1 } (ds.map some ++ List.replicate m none) μ ∧
  (∀ d μ1, Q0 d μ1 → ∃ μ3, Sub μ3 μ1 ∧ Q d μ3) ∧ ∀ x μ1, E0 x μ1 → ∃ μ3, Sub μ3 μ1 ∧ E x μ3
end PD
/-! PDOps: what operators, built-in functions and methods give, on data alone. -/
namespace PD
open PySem

def MulOk (i j : Int) : Prop := i.natAbs.log2 + j.natAbs.log2 < 1000000
def DivOk (j : Int) : Prop := 0 < j ∧ j.natAbs.log2 < 9000
def PowOk (i j : Int) : Prop := 0 ≤ j ∧ j ≤ 1000000 ∧ i.natAbs < 2 ^ 64
def repL (xs : List D) (k : Int) : List D := (List.replicate k.toNat xs).flatten

def uAdd : U2 := fun x y μ Q => match x, y with
  | .int i, .int j => Q (.int (i + j)) μ
  | .str a, .str b => a.length + b.length ≤ LINE ∧ Q (.str (a ++ b)) μ
  | .tup a, .tup b => a.length + b.length ≤ LINE ∧ Q (.tup (a ++ b)) μ
  | .loc a, .loc b => opt (lstAt μ a) fun xs => opt (lstAt μ b) fun ys => xs.length + ys.length ≤ LINE ∧ ∀ p, μ p = none → Q (.loc p) (put μ p (.lst (xs ++ ys)))
  | _, _ => False
def uSub : U2 := fun x y μ Q => match x, y with
  | .int i, .int j => Q (.int (i - j)) μ
  | _, _ => False
def uMul : U2 := fun x y μ Q => match x, y with
  | .int i, .int j => MulOk i j ∧ Q (.int (i * j)) μ
  | .loc a, .int k => opt (lstAt μ a) fun xs => (-(2 ^ 63) ≤ k ∧ k < 2 ^ 63 ∧ xs.length * k.toNat ≤ LINE) ∧ ∀ p, μ p = none → Q (.loc p) (put μ p (.lst (repL xs k)))
  | _, _ => False
def uDiv : U2 := fun x y μ Q => match x, y with
  | .int i, .int j => DivOk j ∧ Q (.int (i / j)) μ
  | _, _ => False
def uMod : U2 := fun x y μ Q => match x, y with
  | .int i, .int j => 0 < j ∧ Q (.int (i % j)) μ
  | _, _ => False
def uPow : U2 := fun x y μ Q => match x, y with
  | .int i, .int j => PowOk i j ∧ Q (.int (i ^ j.toNat)) μ
  | _, _ => False
def uShl : U2 := fun x y μ Q => match x, y with
  | .int i, .int j => PowOk i j ∧ Q (.int (i * 2 ^ j.toNat)) μ
  | _, _ => False
def uNeg : U1 := fun x μ Q => match x with
  | .int i => Q (.int (-i)) μ
  | _ => False

/-! ### comparisons -/
mutual
def eqD : D → D → Bool
  | .non, .non => true
  | .bl a, .bl b => a == b
  | .bl a, .int j => (if a then 1 else 0) == j
  | .int i, .bl b => i == (if b then 1 else 0)
  | .int i, .int j => i == j
  | .str x, .str y => x == y
  | .tup xs, .tup ys => eqL xs ys
  | _, _ => false
def eqL : List D → List D → Bool
  | [], [] => true
  | x :: xs, y :: ys => eqD x y && eqL xs ys
  | _, _ => false
end
mutual
/-- data without lists, its texts of real signs -/
def plain : D → Bool
  | .non => true
  | .bl _ => true
  | .int _ => true
  | .str x => x.cps.all (· < 0x110000)
  | .tup xs => plainL xs
  | .rol _ => false
  | .loc _ => false
  | .wtup _ => false
  | .exv .. => false
def plainL : List D → Bool
  | [] => true
  | x :: xs => plain x && plainL xs
end
mutual
def depth : D → Nat
  | .tup xs => depthL xs + 1
  | _ => 0
def depthL : List D → Nat
  | [] => 0
  | x :: xs => max (depth x) (depthL xs)
end
def EqOk (x : D) : Prop := plain x = true ∧ depth x ≤ 64
def EqOkL (xs : List D) : Prop := plainL xs = true ∧ depthL xs < 64
/-- == by what stands in the store: data, or two lists of data -/
def eqR (x y : D) (μ : Sto) (R : Bool → Prop) : Prop := match x, y with
  | .loc a, .loc b => opt (lstAt μ a) fun xs => opt (lstAt μ b) fun ys => EqOkL xs ∧ EqOkL ys ∧ R (eqL xs ys)
  | x, y => EqOk x ∧ EqOk y ∧ R (eqD x y)
def uEq : U2 := fun x y μ Q => eqR x y μ fun b => Q (.bl b) μ
def uNe : U2 := fun x y μ Q => eqR x y μ fun b => Q (.bl (!b)) μ
def uCmp (p : Int → Int → Bool) : U2 := fun x y μ Q => match x, y with
  | .int i, .int j => Q (.bl (p i j)) μ
  | _, _ => False
abbrev uLt : U2 := uCmp fun i j => decide (i < j)
abbrev uLe : U2 := uCmp fun i j => decide (i ≤ j)
abbrev uGt : U2 := uCmp fun i j => decide (j < i)
abbrev uGe : U2 := uCmp fun i j => decide (j ≤ i)
def isNon : D → Bool
  | .non => true
  | _ => false
def uIs : U2 := fun x y μ Q => match y with
  | .non => Q (.bl (isNon x)) μ
  | _ => False
def uIsNot : U2 := fun x y μ Q => match y with
  | .non => Q (.bl (!isNon x)) μ
  | _ => False

/-! ### places, cuts -/
/-- what a thing holds in sequence -/
def seqOf (x : D) (μ : Sto) : Option (List D) := match x with
  | .tup xs => some xs
  | .wtup xs => some xs
  | .rol xs => some xs
  | .loc p => lstAt μ p
  | _ => none
def atI (xs : List D) (i : Int) : Option D := (ixN xs.length i).bind fun j => xs[j]?
def uIx : U2 := fun x y μ Q => match y with
  | .int i => opt (seqOf x μ) fun xs => opt (atI xs i) fun d => Q d μ
  | _ => False
def cutIx (n d : Nat) : Option Int → Nat
  | none => d
  | some v => if v < 0 then (v + n).toNat else min v.toNat n
def cutL (xs : List D) (lo hi : Option Int) : List D := (xs.drop (cutIx xs.length 0 lo)).take (cutIx xs.length xs.length hi - cutIx xs.length 0 lo)
def cutR (x : D) (lo hi : Option Int) (μ : Sto) (Q : QE) : Prop := match x with
  | .tup xs => Q (.tup (cutL xs lo hi)) μ
  | .rol xs => ∀ p, μ p = none → Q (.loc p) (put μ p (.lst (cutL xs lo hi)))
  | .loc a => opt (lstAt μ a) fun xs => ∀ p, μ p = none → Q (.loc p) (put μ p (.lst (cutL xs lo hi)))
  | _ => False
def asI (d : D) (R : Int → Prop) : Prop := match d with
  | .int i => R i
  | _ => False
@[simp] theorem asI_int {i : Int} {R : Int → Prop} : asI (.int i) R = R i := rfl
/-- x[:], x[a:], x[:b], x[a:b] -/
def dCut (t : DE) (lo hi : Option DE) : DE := fun ρ μ Q E => t ρ μ (fun x μ1 => match lo, hi with
  | none, none => cutR x none none μ1 Q
  | some l, none => l ρ μ1 (fun a μ2 => asI a fun i => cutR x (some i) none μ2 Q) E
  | none, some h => h ρ μ1 (fun b μ2 => asI b fun j => cutR x none (some j) μ2 Q) E
  | some l, some h => l ρ μ1 (fun a μ2 => asI a fun i => h ρ μ2 (fun b μ3 => asI b fun j => cutR x (some i) (some j) μ3 Q) E) E) E

/-! ### built-in functions -/
def lenOf (x : D) (μ : Sto) : Option Nat := match x with
  | .str z => if z.length ≤ LINE then some z.length else none
  | x => (seqOf x μ).map List.length
def aLen : UA := fun xs μ Q => match xs with
  | [x] => opt (lenOf x μ) fun n => Q (.int n) μ
  | _ => False
def aInt : UA := fun xs μ Q => match xs with
  | [.int i] => Q (.int i) μ
  | [.bl b] => Q (.int (if b then 1 else 0)) μ
  | _ => False
def aAbs : UA := fun xs μ Q => match xs with
  | [.int i] => Q (.int (if i < 0 then -i else i)) μ
  | _ => False
/-- what a list holds -/
def lstOf (x : D) (μ : Sto) : Option (List D) := match x with
  | .rol xs => some xs
  | .loc p => lstAt μ p
  | _ => none
def aTuple : UA := fun xs μ Q => match xs with
  | [.tup ys] => Q (.tup ys) μ
  | [x] => opt (lstOf x μ) fun ys => Q (.tup ys) μ
  | _ => False
def aList : UA := fun xs μ Q => match xs with
  | [x] => opt (seqOf x μ) fun ys => ∀ p, μ p = none → Q (.loc p) (put μ p (.lst ys))
  | _ => False
def intsOf : List D → Option (List Int)
  | [] => some []
  | .int i :: r => (intsOf r).map fun ns => i :: ns
  | _ :: _ => none
def intSeq (x : D) (μ : Sto) : Option (List Int) := (seqOf x μ).bind intsOf
def aSum : UA := fun xs μ Q => match xs with
  | [x] => opt (intSeq x μ) fun ns => Q (.int ns.sum) μ
  | _ => False
def aMax : UA := fun xs μ Q => match xs with
  | [x] => opt (intSeq x μ) fun ns => 0 < ns.length ∧ ∀ m, m ∈ ns → (∀ y, y ∈ ns → y ≤ m) → Q (.int m) μ
  | [.int i, .int j] => Q (.int (if j > i then j else i)) μ
  | _ => False
def aMin : UA := fun xs μ Q => match xs with
  | [x] => opt (intSeq x μ) fun ns => 0 < ns.length ∧ ∀ m, m ∈ ns → (∀ y, y ∈ ns → m ≤ y) → Q (.int m) μ
  | [.int i, .int j] => Q (.int (if j < i then j else i)) μ
  | _ => False
def aGcd : UA := fun xs μ Q => match xs with
  | [.int i, .int j] => Q (.int ((Nat.gcd i.natAbs j.natAbs : Nat) : Int)) μ
  | _ => False
/-- the built-in types that are asked for -/
inductive Ty where
  | tint | tbool | tstr | ttuple | tlist
def isTy : Ty → D → Bool
  | .tint, .int _ => true
  | .tint, .bl _ => true
  | .tbool, .bl _ => true
  | .tstr, .str _ => true
  | .ttuple, .tup _ => true
  | .ttuple, .wtup _ => true
  | .tlist, .rol _ => true
  | .tlist, .loc _ => true
  | _, _ => false
/-- what isinstance may be asked of -/
def isiOk (x : D) (μ : Sto) : Prop := match x with
  | .loc p => (lstAt μ p).isSome = true
  | .exv .. => False
  | _ => True
/-- isinstance(x, T) -/
def dIsi (T : Ty) (t : DE) : DE := fun ρ μ Q E => t ρ μ (fun x μ1 => isiOk x μ1 ∧ Q (.bl (isTy T x)) μ1) E

/-! ### methods -/
inductive MTy where
  | list | str
def tyM (T : MTy) (x : D) (μ : Sto) : Prop := match T, x with
  | .list, .loc p => (lstAt μ p).isSome = true
  | .list, .rol _ => True
  | .str, .str _ => True
  | _, _ => False
/-- a method of a built-in type: the object, then the arguments -/
def dMeth (T : MTy) (g : D → UA) (to : DE) (t : DA) : DE := fun ρ μ Q E => to ρ μ (fun x μ1 => tyM T x μ1 ∧ t ρ μ1 (fun xs μ2 => g x xs μ2 Q) E) E
def dMeth0 (T : MTy) (g : D → UA) (to : DE) : DE := fun ρ μ Q E => to ρ μ (fun x μ1 => tyM T x μ1 ∧ g x [] μ1 Q) E
def mAppend : D → UA := fun x ys μ Q => match x, ys with
  | .loc p, [y] => opt (lstAt μ p) fun xs => xs.length < LINE ∧ Q .non (put μ p (.lst (xs ++ [y])))
  | _, _ => False
def mPop : D → UA := fun x ys μ Q => match x, ys with
  | .loc p, [] => opt (lstAt μ p) fun xs => opt (xs[xs.length - 1]?) fun y => Q y (put μ p (.lst xs.dropLast))
  | .loc p, [.int i] => opt (lstAt μ p) fun xs => (-(2 ^ 63) ≤ i ∧ i < 2 ^ 63) ∧ opt (ixN xs.length i) fun j => opt (xs[j]?) fun y => Q y (put μ p (.lst (xs.eraseIdx j)))
  | _, _ => False
def bitsOf (i : Int) : Nat := if i = 0 then 0 else i.natAbs.log2 + 1
def uBits : U1 := fun x μ Q => match x with
  | .int i => Q (.int (bitsOf i)) μ
  | _ => False
/-- x[::-1] of a list -/
def uRev : U1 := fun x μ Q => opt (lstOf x μ) fun xs => ∀ p, μ p = none → Q (.loc p) (put μ p (.lst xs.reverse))
def lstInts (x : D) (μ : Sto) : Option (List Int) := (lstOf x μ).bind intsOf
/-- sorted(xs) of a list of ints -/
def aSorted : UA := fun xs μ Q => match xs with
  | [x] => opt (lstInts x μ) fun ns => ∀ (ns' : List Int) p, ns'.Perm ns → ns'.Pairwise (· ≤ ·) → μ p = none → Q (.loc p) (put μ p (.lst (ns'.map D.int)))
  | _ => False
/-- sorted(set(t)), t a tuple of fewer than 64 ints -/
def uSortSet : U1 := fun x μ Q => match x with
  | .tup xs => opt (intsOf xs) fun ns => ns.length < 64 ∧ ∀ (ns' : List Int) p, ns'.Pairwise (· < ·) → (∀ k, k ∈ ns' ↔ k ∈ ns) → μ p = none → Q (.loc p) (put μ p (.lst (ns'.map D.int)))
  | _ => False
/-- len(set(t)), t a tuple of ints -/
def uLenSet : U1 := fun x μ Q => match x with
  | .tup xs => opt (intsOf xs) fun ns => ns.length ≤ 4000 ∧ ∀ ns' : List Int, ns'.Nodup → (∀ k, k ∈ ns' ↔ k ∈ ns) → Q (.int ns'.length) μ
  | _ => False
/-- xs.count(k), t.count(k), of ints -/
def isLT (x : D) (μ : Sto) : Prop := match x with
  | .tup _ => True
  | .rol _ => True
  | .loc p => (lstAt μ p).isSome = true
  | _ => False
def mCount : D → UA := fun x ys μ Q => match ys with
  | [.int k] => opt (intSeq x μ) fun ns => Q (.int (ns.count k : Nat)) μ
  | _ => False
/-- a method that lists and tuples have -/
def dMethLT (g : D → UA) (to : DE) (t : DA) : DE := fun ρ μ Q E => to ρ μ (fun x μ1 => isLT x μ1 ∧ t ρ μ1 (fun xs μ2 => g x xs μ2 Q) E) E
end PD
/-! PDOps2: list(range(n)), del xs[i], on data alone. -/
namespace PD
open PySem
/-- list(range(j)) -/
def uListR : U1 := fun x μ Q => match x with
  | .int j => (-(2 ^ 62) ≤ j ∧ j ≤ 16777216) ∧ ∀ p, μ p = none → Q (.loc p) (put μ p (.lst (rangeL 0 j.toNat)))
  | _ => False
/-- del xs[i] -/
def sDel (to ti : DE) : DS := fun K ρ μ => to ρ μ (fun o μ1 => ti ρ μ1 (fun i μ2 => match o, i with
  | .loc p, .int k => (-(2 ^ 63) ≤ k ∧ k < 2 ^ 63) ∧ opt (lstAt μ2 p) fun xs => opt (ixN xs.length k) fun j => K.nx ρ (put μ2 p (.lst (xs.eraseIdx j)))
  | _, _ => False) (fun e μ2 => K.ex e ρ μ2)) (fun e μ1 => K.ex e ρ μ1)
end PD
set_option Elab.async false
set_option linter.all false
set_option maxRecDepth 100000
set_option maxHeartbeats 4000000
/-! PDSound: the machine keeps what PDCore says. -/
namespace PD
open PySem PySem.Spec PyProof.Rows L2

/-! ### values of data -/
/-- a list that nobody changes -/
def FzL (K : PySem.W.Frag) (H : Hp) (a : Addr) (vs : List V) : Prop := (∃ o, H a = some (.frz o (.lst vs))) ∨
  ∃ (o : Obj) (its : Array Value) (n : Nat), K.lookup a = some o ∧ o.cls = .type "list" ∧ o.dict = none ∧ o.data = .seq its n ∧ its.size ≤ sizeLine ∧ Vals vs its.toList
theorem FzL.seq {K : PySem.W.Frag} {H : Hp} {a : Addr} {vs : List V} (h : FzL K H a vs) : SqL K H a vs := h.elim (fun q => .inl (.inr q)) .inr
/-- a tuple whose object is known to have no dict -/
def TqT (K : PySem.W.Frag) (H : Hp) (a : Addr) (vs : List V) : Prop := (∃ o : Obj, o.dict = none ∧ H a = some (.frz o (.tup vs))) ∨
  ∃ (o : Obj) (its : Array Value) (n : Nat), K.lookup a = some o ∧ o.cls = .type "tuple" ∧ o.dict = none ∧ o.data = .seq its n ∧ its.size ≤ sizeLine ∧ Vals vs its.toList
theorem TqT.seq {K : PySem.W.Frag} {H : Hp} {a : Addr} {vs : List V} (h : TqT K H a vs) : SqT K H a vs := h.elim (fun ⟨o, _, q⟩ => .inl (.inr ⟨o, q⟩)) (fun ⟨o, its, n, h1, h2, _, h4⟩ => .inr ⟨o, its, n, h1, h2, h4⟩)
mutual
def Rep (K : PySem.W.Frag) (H : Hp) : D → V → Prop
  | .non, v => v = .non
  | .bl b, v => v = .bl b
  | .int i, v => v = .int i
  | .str x, v => v = .str x
  | .loc a, v => v = .ref a
  | .tup ds, v => ∃ a vs, v = .ref a ∧ TqT K H a vs ∧ RepL K H ds vs
  | .wtup ds, v => ∃ a vs, v = .ref a ∧ SqT K H a vs ∧ RepL K H ds vs
  | .rol ds, v => ∃ a vs, v = .ref a ∧ FzL K H a vs ∧ RepL K H ds vs
  | .exv a d ns ds, v => v = .ref a ∧ ∃ (fs : List (Str × V)) (us : List V), H d = some (.xd fs) ∧ RepL K H ds us ∧ ∀ f u, (ns.zip us).lookup f = some u → fs.lookup f = some u
def RepL (K : PySem.W.Frag) (H : Hp) : List D → List V → Prop
  | [], vs => vs = []
  | d :: ds, vs => ∃ v r, vs = v :: r ∧ Rep K H d v ∧ RepL K H ds r
end
/-- what never changes stays -/
structure Tp (H H' : Hp) : Prop where
  tups : ∀ a xs, H a = some (.tup xs) → H' a = some (.tup xs)
  frzs : ∀ a o u, H a = some (.frz o u) → H' a = some (.frz o u)
  xds : ∀ a fs, H a = some (.xd fs) → H' a = some (.xd fs)
theorem Tp.refl (H : Hp) : Tp H H := ⟨fun _ _ h => h, fun _ _ _ h => h, fun _ _ h => h⟩
theorem Tp.trans {A B C : Hp} (h : Tp A B) (k : Tp B C) : Tp A C := ⟨fun a x e => k.tups a x (h.tups a x e), fun a o u e => k.frzs a o u (h.frzs a o u e), fun a x e => k.xds a x (h.xds a x e)⟩
theorem Tp.new {H : Hp} {p : Addr} {o : HO} (n : H p = none) : Tp H (upd H p o) :=
  ⟨fun a x e => by rw [upd_ne (ne_of_none e n)]; exact e, fun a u w e => by rw [upd_ne (ne_of_none e n)]; exact e, fun a x e => by rw [upd_ne (ne_of_none e n)]; exact e⟩
theorem Tp.lst {H : Hp} {p : Addr} {o : HO} {xs : List V} (h : H p = some (.lst xs)) : Tp H (upd H p o) :=
  ⟨fun a x e => by rw [upd_ne (ne_of e h (fun q => nomatch q))]; exact e, fun a u w e => by rw [upd_ne (ne_of e h (fun q => nomatch q))]; exact e, fun a x e => by rw [upd_ne (ne_of e h (fun q => nomatch q))]; exact e⟩
theorem FzL.tp {K : PySem.W.Frag} {H H' : Hp} {a : Addr} {xs : List V} (t : Tp H H') (h : FzL K H a xs) : FzL K H' a xs :=
  h.elim (fun ⟨o, q⟩ => .inl ⟨o, t.frzs _ _ _ q⟩) .inr
theorem SqT.tp {K : PySem.W.Frag} {H H' : Hp} {a : Addr} {xs : List V} (t : Tp H H') (h : SqT K H a xs) : SqT K H' a xs := by
  rcases h with (h | ⟨o, h⟩) | h
  · exact .inl (.inl (t.tups _ _ h))
  · exact .inl (.inr ⟨o, t.frzs _ _ _ h⟩)
  · exact .inr h
theorem TqT.tp {K : PySem.W.Frag} {H H' : Hp} {a : Addr} {xs : List V} (t : Tp H H') (h : TqT K H a xs) : TqT K H' a xs :=
  h.elim (fun ⟨o, d, q⟩ => .inl ⟨o, d, t.frzs _ _ _ q⟩) .inr
mutual
theorem Rep.tp {K : PySem.W.Frag} {H H' : Hp} (t : Tp H H') : ∀ {d : D} {v : V}, Rep K H d v → Rep K H' d v
  | .non, _, h => by simp only [Rep] at h ⊢; exact h
  | .bl _, _, h => by simp only [Rep] at h ⊢; exact h
  | .int _, _, h => by simp only [Rep] at h ⊢; exact h
  | .str _, _, h => by simp only [Rep] at h ⊢; exact h
  | .loc _, _, h => by simp only [Rep] at h ⊢; exact h
  | .tup ds, _, h => by
    simp only [Rep] at h ⊢
    obtain ⟨a, vs, e, q, r⟩ := h
    exact ⟨a, vs, e, TqT.tp t q, RepL.tp t r⟩
  | .wtup ds, _, h => by
    simp only [Rep] at h ⊢
    obtain ⟨a, vs, e, q, r⟩ := h
    exact ⟨a, vs, e, SqT.tp t q, RepL.tp t r⟩
  | .rol ds, _, h => by
    simp only [Rep] at h ⊢
    obtain ⟨a, vs, e, q, r⟩ := h
    exact ⟨a, vs, e, FzL.tp t q, RepL.tp t r⟩
  | .exv _ _ _ _, _, h => by
    simp only [Rep] at h ⊢
    obtain ⟨e, fs, us, q, r, l⟩ := h
    exact ⟨e, fs, us, t.xds _ _ q, RepL.tp t r, l⟩
theorem RepL.tp {K : PySem.W.Frag} {H H' : Hp} (t : Tp H H') : ∀ {ds : List D} {vs : List V}, RepL K H ds vs → RepL K H' ds vs
  | [], _, h => by simp only [RepL] at h ⊢; exact h
  | d :: ds, _, h => by
    simp only [RepL] at h ⊢
    obtain ⟨v, r, e, q, s⟩ := h
    exact ⟨v, r, e, Rep.tp t q, RepL.tp t s⟩
end
section
variable {K : PySem.W.Frag} {H : Hp}
theorem rep_non {v : V} (h : Rep K H .non v) : v = .non := by simpa only [Rep] using h
theorem rep_bl {b : Bool} {v : V} (h : Rep K H (.bl b) v) : v = .bl b := by simpa only [Rep] using h
theorem rep_int {i : Int} {v : V} (h : Rep K H (.int i) v) : v = .int i := by simpa only [Rep] using h
theorem rep_str {x : Str} {v : V} (h : Rep K H (.str x) v) : v = .str x := by simpa only [Rep] using h
theorem rep_loc {a : Nat} {v : V} (h : Rep K H (.loc a) v) : v = .ref a := by simpa only [Rep] using h
theorem rep_tup {ds : List D} {v : V} (h : Rep K H (.tup ds) v) : ∃ a vs, v = .ref a ∧ TqT K H a vs ∧ RepL K H ds vs := by simpa only [Rep] using h
theorem rep_wtup {ds : List D} {v : V} (h : Rep K H (.wtup ds) v) : ∃ a vs, v = .ref a ∧ SqT K H a vs ∧ RepL K H ds vs := by simpa only [Rep] using h
theorem rep_rol {ds : List D} {v : V} (h : Rep K H (.rol ds) v) : ∃ a vs, v = .ref a ∧ FzL K H a vs ∧ RepL K H ds vs := by simpa only [Rep] using h
theorem rep_exv {a d : Nat} {ns : List Str} {ds : List D} {v : V} (h : Rep K H (.exv a d ns ds) v) : v = .ref a ∧ ∃ (fs : List (Str × V)) (us : List V), H d = some (.xd fs) ∧ RepL K H ds us ∧ ∀ f u, (ns.zip us).lookup f = some u → fs.lookup f = some u := by simpa only [Rep] using h
theorem mk_exv {a d : Nat} {ns : List Str} {ds : List D} {fs : List (Str × V)} {us : List V} (h1 : H d = some (.xd fs)) (r : RepL K H ds us) (l : ∀ f u, (ns.zip us).lookup f = some u → fs.lookup f = some u) : Rep K H (.exv a d ns ds) (.ref a) := by
  simp only [Rep]; exact ⟨trivial, fs, us, h1, r, l⟩
theorem mk_non : Rep K H .non .non := by simp only [Rep]
theorem mk_bl {b : Bool} : Rep K H (.bl b) (.bl b) := by simp only [Rep]
theorem mk_int {i : Int} : Rep K H (.int i) (.int i) := by simp only [Rep]
theorem mk_str {x : Str} : Rep K H (.str x) (.str x) := by simp only [Rep]
theorem mk_loc {a : Nat} : Rep K H (.loc a) (.ref a) := by simp only [Rep]
theorem mk_tup {ds : List D} {a : Addr} {vs : List V} (q : TqT K H a vs) (r : RepL K H ds vs) : Rep K H (.tup ds) (.ref a) := by
  simp only [Rep]; exact ⟨a, vs, rfl, q, r⟩
theorem mk_wtup {ds : List D} {a : Addr} {vs : List V} (q : SqT K H a vs) (r : RepL K H ds vs) : Rep K H (.wtup ds) (.ref a) := by
  simp only [Rep]; exact ⟨a, vs, rfl, q, r⟩
theorem repl_nil {vs : List V} (h : RepL K H [] vs) : vs = [] := by simpa only [RepL] using h
theorem repl_cons {d : D} {ds : List D} {vs : List V} (h : RepL K H (d :: ds) vs) : ∃ v r, vs = v :: r ∧ Rep K H d v ∧ RepL K H ds r := by simpa only [RepL] using h
theorem mk_nil : RepL K H [] [] := by simp only [RepL]
theorem mk_cons {d : D} {ds : List D} {v : V} {vs : List V} (h : Rep K H d v) (r : RepL K H ds vs) : RepL K H (d :: ds) (v :: vs) := by
  simp only [RepL]; exact ⟨v, vs, rfl, h, r⟩
theorem RepL.len : ∀ {ds : List D} {vs : List V}, RepL K H ds vs → ds.length = vs.length
  | [], _, h => by rw [repl_nil h]; rfl
  | d :: ds, _, h => by
    obtain ⟨v, r, e, _, s⟩ := repl_cons h
    rw [e, List.length_cons, List.length_cons, RepL.len s]
theorem RepL.get : ∀ {ds : List D} {vs : List V} {i : Nat} {d : D}, RepL K H ds vs → ds[i]? = some d → ∃ v, vs[i]? = some v ∧ Rep K H d v
  | [], _, _, _, _, e => by simp at e
  | d :: ds, _, 0, x, h, e => by
    obtain ⟨v, r, ev, q, s⟩ := repl_cons h
    simp at e; subst e ev
    exact ⟨v, rfl, q⟩
  | d :: ds, _, i + 1, x, h, e => by
    obtain ⟨v, r, ev, q, s⟩ := repl_cons h
    subst ev
    obtain ⟨w, h1, h2⟩ := RepL.get (i := i) s (by simpa using e)
    exact ⟨w, by simpa using h1, h2⟩
theorem RepL.app : ∀ {ds es : List D} {vs ws : List V}, RepL K H ds vs → RepL K H es ws → RepL K H (ds ++ es) (vs ++ ws)
  | [], _, _, _, h, k => by rw [repl_nil h]; exact k
  | d :: ds, _, _, _, h, k => by
    obtain ⟨v, r, ev, q, s⟩ := repl_cons h
    subst ev
    exact mk_cons q (RepL.app s k)
theorem RepL.set {x : D} {v : V} (q : Rep K H x v) : ∀ {ds : List D} {vs : List V} (i : Nat), RepL K H ds vs → RepL K H (ds.set i x) (vs.set i v)
  | [], _, _, h => by rw [repl_nil h]; exact mk_nil
  | d :: ds, _, 0, h => by
    obtain ⟨w, r, ev, _, s⟩ := repl_cons h
    subst ev
    exact mk_cons q s
  | d :: ds, _, i + 1, h => by
    obtain ⟨w, r, ev, p, s⟩ := repl_cons h
    subst ev
    exact mk_cons p (RepL.set q i s)
theorem RepL.take : ∀ {ds : List D} {vs : List V} (n : Nat), RepL K H ds vs → RepL K H (ds.take n) (vs.take n)
  | _, _, 0, _ => mk_nil
  | [], _, _ + 1, h => by rw [repl_nil h]; exact mk_nil
  | _ :: _, _, n + 1, h => by
    obtain ⟨w, r, ev, p, s⟩ := repl_cons h
    subst ev
    exact mk_cons p (RepL.take n s)
theorem RepL.drop : ∀ {ds : List D} {vs : List V} (n : Nat), RepL K H ds vs → RepL K H (ds.drop n) (vs.drop n)
  | _, _, 0, h => h
  | [], _, _ + 1, h => by rw [repl_nil h]; exact mk_nil
  | _ :: _, _, n + 1, h => by
    obtain ⟨w, r, ev, p, s⟩ := repl_cons h
    subst ev
    exact RepL.drop n s
theorem repl_ints : ∀ {ns : List Int} {vs : List V}, RepL K H (ns.map D.int) vs → vs = ns.map V.int
  | [], _, h => repl_nil h
  | n :: ns, _, h => by
    obtain ⟨v, r, ev, q, s⟩ := repl_cons h
    rw [ev, rep_int q, repl_ints s]; rfl
theorem mk_ints : ∀ (ns : List Int), RepL K H (ns.map D.int) (ns.map V.int)
  | [] => mk_nil
  | n :: ns => mk_cons mk_int (mk_ints ns)
end

/-- an object of the store -/
def OR (K : PySem.W.Frag) (H : Hp) (a : Addr) : O → Prop
  | .lst xs => ∃ vs, H a = some (.lst vs) ∧ RepL K H xs vs
def StR (K : PySem.W.Frag) (H : Hp) (μ : Sto) : Prop := ∀ a o, μ a = some o → OR K H a o
def EnR (K : PySem.W.Frag) (H : Hp) (ρ : Ev) (σ : L2.St) : Prop := ρ.length = σ.length ∧ ∀ i d, look ρ i = some d → ∃ v, σ[i]? = some (some v) ∧ Rep K H d v
theorem EnR.tp {K : PySem.W.Frag} {H H' : Hp} {ρ : Ev} {σ : L2.St} (t : Tp H H') (h : EnR K H ρ σ) : EnR K H' ρ σ :=
  ⟨h.1, fun i d e => let ⟨v, e1, r⟩ := h.2 i d e; ⟨v, e1, r.tp t⟩⟩
theorem StR.sub {K : PySem.W.Frag} {H : Hp} {μ μ' : Sto} (h : StR K H μ') (s : Sub μ μ') : StR K H μ := fun a o e => h a o (s a o e)
theorem look_set : ∀ (ρ : Ev) (i j : Nat) (d : Option D), look (setE ρ i d) j = if j = i ∧ i < ρ.length then d else look ρ j
  | [], _, _, _ => by simp [setE, look]
  | x :: r, 0, 0, d => by simp [setE, look]
  | x :: r, 0, j + 1, d => by simp [setE, look]
  | x :: r, i + 1, 0, d => by simp [setE, look]
  | x :: r, i + 1, j + 1, d => by simp [setE, look, look_set r i j d]
theorem setE_len : ∀ (ρ : Ev) (i : Nat) (d : Option D), (setE ρ i d).length = ρ.length
  | [], _, _ => rfl
  | _ :: _, 0, _ => rfl
  | _ :: r, i + 1, d => by simp [setE, setE_len r i d]
theorem EnR.set {K : PySem.W.Frag} {H : Hp} {ρ : Ev} {σ : L2.St} (h : EnR K H ρ σ) (i : Nat) {d : D} {v : V} (r : Rep K H d v) : EnR K H (setE ρ i (some d)) (σ.set i (some v)) := by
  refine ⟨by rw [setE_len, List.length_set]; exact h.1, fun j e q => ?_⟩
  rw [look_set] at q
  split at q
  · rename_i c
    obtain ⟨rfl, hl⟩ := c
    cases q
    exact ⟨v, by rw [List.getElem?_set_self (by rw [← h.1]; exact hl)], r⟩
  · rename_i c
    obtain ⟨w, e1, r1⟩ := h.2 j e q
    by_cases hji : j = i
    · subst hji
      have hl : j < σ.length := by
        rcases Nat.lt_or_ge j σ.length with z | z
        · exact z
        · rw [List.getElem?_eq_none z] at e1; cases e1
      exact absurd ⟨rfl, by rw [h.1]; exact hl⟩ c
    · exact ⟨w, by rw [List.getElem?_set_ne (Ne.symm hji)]; exact e1, r1⟩
theorem EnR.gone {K : PySem.W.Frag} {H : Hp} {ρ : Ev} {σ : L2.St} (h : EnR K H ρ σ) (i : Nat) {o : Option V} : EnR K H (setE ρ i none) (σ.set i o) := by
  refine ⟨by rw [setE_len, List.length_set]; exact h.1, fun j e q => ?_⟩
  rw [look_set] at q
  split at q
  · cases q
  · rename_i c
    obtain ⟨w, e1, r1⟩ := h.2 j e q
    by_cases hji : j = i
    · subst hji
      have hl : j < σ.length := by
        rcases Nat.lt_or_ge j σ.length with z | z
        · exact z
        · rw [List.getElem?_eq_none z] at e1; cases e1
      exact absurd ⟨rfl, by rw [h.1]; exact hl⟩ c
    · exact ⟨w, by rw [List.getElem?_set_ne (Ne.symm hji)]; exact e1, r1⟩
theorem StR.lst {K : PySem.W.Frag} {H : Hp} {μ : Sto} (h : StR K H μ) {a : Nat} {xs : List D} (e : lstAt μ a = some xs) : ∃ vs, H a = some (.lst vs) ∧ RepL K H xs vs := h a _ (lstAt_some e)
theorem opt_ex {α : Type} {o : Option α} {k : α → Prop} (h : opt o k) : ∃ a, o = some a ∧ k a := by
  cases o with
  | none => exact h.elim
  | some a => exact ⟨a, rfl, h⟩
theorem StR.there {K : PySem.W.Frag} {H : Hp} {μ : Sto} (h : StR K H μ) {a : Nat} {o : O} (e : μ a = some o) : H a ≠ none := by
  cases o with
  | lst xs =>
    obtain ⟨vs, q, _⟩ := h a _ e
    rw [q]; exact fun z => nomatch z
theorem StR.untold {K : PySem.W.Frag} {H : Hp} {μ : Sto} (h : StR K H μ) {a : Nat} (e : H a = none) : μ a = none := by
  cases q : μ a with
  | none => rfl
  | some o => exact absurd e (h.there q)
/-- a new object that the store does not tell -/
theorem StR.new {K : PySem.W.Frag} {H : Hp} {μ : Sto} (h : StR K H μ) {p : Addr} {u : HO} (n : H p = none) : StR K (upd H p u) μ := fun a o e => by
  cases o with
  | lst xs =>
    obtain ⟨vs, q, r⟩ := h a _ e
    exact ⟨vs, by rw [upd_ne (ne_of_none q n)]; exact q, r.tp (.new n)⟩
/-- a new list -/
theorem StR.newL {K : PySem.W.Frag} {H : Hp} {μ : Sto} (h : StR K H μ) {p : Addr} {xs : List D} {vs : List V} (n : H p = none) (r : RepL K H xs vs) : StR K (upd H p (.lst vs)) (put μ p (.lst xs)) := fun a o e => by
  by_cases hp : a = p
  · subst hp
    rw [put_same] at e; cases e
    exact ⟨vs, upd_same, r.tp (.new n)⟩
  · rw [put_ne hp] at e
    exact h.new n a o e
/-- a list changes -/
theorem StR.setL {K : PySem.W.Frag} {H : Hp} {μ : Sto} (h : StR K H μ) {p : Addr} {xs : List D} {vs ws : List V} (e : H p = some (.lst ws)) (r : RepL K H xs vs) : StR K (upd H p (.lst vs)) (put μ p (.lst xs)) := fun a o q => by
  by_cases hp : a = p
  · subst hp
    rw [put_same] at q; cases q
    exact ⟨vs, upd_same, r.tp (.lst e)⟩
  · rw [put_ne hp] at q
    cases o with
    | lst ys =>
      obtain ⟨us, q1, r1⟩ := h a _ q
      exact ⟨us, by rw [upd_ne hp]; exact q1, r1.tp (.lst e)⟩

/-! ### how an exception stands -/
def ExR (K : PySem.W.Frag) (mg : Str → Option Value) (H : Hp) (x : Ex) (cls : Value) (d : Option Addr) : Prop :=
  ∃ (C dd : Addr) (fs : List (Str × V)) (us : List V), mg x.cls = some (.ref C) ∧ cls = .ref C ∧ d = some dd ∧ H dd = some (.xd fs) ∧ RepL K H (x.fs.map (·.2)) us ∧ ∀ f u, ((x.fs.map (·.1)).zip us).lookup f = some u → fs.lookup f = some u

/-! ### readings of the machine's layer, from what the data asks -/
section
variable (K : PySem.W.Frag) (mg : Str → Option Value) (W : WX)
def QL (H : Hp) (Q : VK) : QE := fun d μ' => ∀ v H', Tp H H' → StR K H' μ' → Rep K H' d v → Q v H'
def QBL (H : Hp) (Q : Bool → Hp → Prop) : QB := fun b μ' => ∀ H', Tp H H' → StR K H' μ' → Q b H'
def QAL (H : Hp) (Q : List V → Hp → Prop) : QA := fun ds μ' => ∀ vs H', Tp H H' → StR K H' μ' → RepL K H' ds vs → Q vs H'
def XL (σ : L2.St) (H : Hp) : QX := fun x μ' => ∀ cls d H', Tp H H' → StR K H' μ' → ExR K mg H' x cls d → W cls d σ H'
def NL (H : Hp) (Q : L2.St → Hp → Prop) : Ev → Sto → Prop := fun ρ' μ' => ∀ σ' H', Tp H H' → EnR K H' ρ' σ' → StR K H' μ' → Q σ' H'
def DL (H : Hp) (D : Ends) : DK where
  nx := NL K H D.nx
  rt := QL K H D.rt
  bk := NL K H D.bk
  ct := NL K H D.ct
  ex := fun x ρ' μ' => ∀ cls d σ' H', Tp H H' → EnR K H' ρ' σ' → StR K H' μ' → ExR K mg H' x cls d → W cls d σ' H'
def lE (t : DE) : TE := fun σ H Q => ∃ ρ μ, EnR K H ρ σ ∧ StR K H μ ∧ t ρ μ (QL K H Q) (XL K mg W σ H)
def lT (t : DT) : TT := fun σ H Q => ∃ ρ μ, EnR K H ρ σ ∧ StR K H μ ∧ t ρ μ (QBL K H Q) (XL K mg W σ H)
def lA (t : DA) : TA := fun σ H Q => ∃ ρ μ, EnR K H ρ σ ∧ StR K H μ ∧ t ρ μ (QAL K H Q) (XL K mg W σ H)
def lG (g : DG) : TG := fun v σ H Q => ∃ d ρ μ, Rep K H d v ∧ EnR K H ρ σ ∧ StR K H μ ∧ g d ρ μ (NL K H Q) (XL K mg W σ H)
def lS (t : DS) : TS := fun D σ H => ∃ ρ μ, EnR K H ρ σ ∧ StR K H μ ∧ t (DL K mg W H D) ρ μ
end
structure PDE (X : Cx) (W : WX) (e : Expr) (t : DE) : Prop where
  mono : ∀ ρ μ Q Q' E E', (∀ d μ', Q d μ' → Q' d μ') → (∀ x μ', E x μ' → E' x μ') → t ρ μ Q E → t ρ μ Q' E'
  run : PE X e (lE X.K X.mg W t)
structure PDT (X : Cx) (W : WX) (e : Expr) (t : DT) : Prop where
  mono : ∀ ρ μ Q Q' E E', (∀ d μ', Q d μ' → Q' d μ') → (∀ x μ', E x μ' → E' x μ') → t ρ μ Q E → t ρ μ Q' E'
  run : PT X e (lT X.K X.mg W t)
structure PDW (X : Cx) (W : WX) (e : Expr) (t : DT) : Prop where
  mono : ∀ ρ μ Q Q' E E', (∀ d μ', Q d μ' → Q' d μ') → (∀ x μ', E x μ' → E' x μ') → t ρ μ Q E → t ρ μ Q' E'
  run : PW X e (lT X.K X.mg W t)
structure PDA (X : Cx) (W : WX) (es : List Expr) (t : DA) : Prop where
  mono : ∀ ρ μ Q Q' E E', (∀ d μ', Q d μ' → Q' d μ') → (∀ x μ', E x μ' → E' x μ') → t ρ μ Q E → t ρ μ Q' E'
  run : PA X es (lA X.K X.mg W t)
structure PDG (X : Cx) (W : WX) (tg : Expr) (g : DG) : Prop where
  mono : ∀ d ρ μ Q Q' E E', (∀ ρ' μ', Q ρ' μ' → Q' ρ' μ') → (∀ x μ', E x μ' → E' x μ') → g d ρ μ Q E → g d ρ μ Q' E'
  run : PG X tg (lG X.K X.mg W g)
/-- one wish is stronger than another -/
structure DK.Le (A B : DK) : Prop where
  nx : ∀ ρ μ, A.nx ρ μ → B.nx ρ μ
  rt : ∀ d μ, A.rt d μ → B.rt d μ
  bk : ∀ ρ μ, A.bk ρ μ → B.bk ρ μ
  ct : ∀ ρ μ, A.ct ρ μ → B.ct ρ μ
  ex : ∀ x ρ μ, A.ex x ρ μ → B.ex x ρ μ
structure PDS (X : Cx) (W : WX) (st : Stmt) (t : DS) : Prop where
  mono : ∀ A B ρ μ, DK.Le A B → t A ρ μ → t B ρ μ
  run : PS X st (lS X.K X.mg W t)
structure PDSs (X : Cx) (W : WX) (st : List Stmt) (t : DS) : Prop where
  mono : ∀ A B ρ μ, DK.Le A B → t A ρ μ → t B ρ μ
  run : PSs X st (lS X.K X.mg W t)

theorem PE_imp {X : Cx} {e : Expr} {t t' : TE} (h : PE X e t) (f : ∀ σ H Q, t' σ H Q → t σ H Q) : PE X e t' := ⟨fun pins s σ H Q I q => h.run pins s σ H Q I (f σ H Q q)⟩
theorem PT_imp {X : Cx} {e : Expr} {t t' : TT} (h : PT X e t) (f : ∀ σ H Q, t' σ H Q → t σ H Q) : PT X e t' := ⟨fun pins s σ H Q I q => h.run pins s σ H Q I (f σ H Q q)⟩
theorem PW_imp {X : Cx} {e : Expr} {t t' : TT} (h : PW X e t) (f : ∀ σ H Q, t' σ H Q → t σ H Q) : PW X e t' := ⟨fun w pins s σ H Q I q => h.run w pins s σ H Q I (f σ H Q q)⟩
theorem PA_imp {X : Cx} {e : List Expr} {t t' : TA} (h : PA X e t) (f : ∀ σ H Q, t' σ H Q → t σ H Q) : PA X e t' := ⟨fun pos pins s σ H Q I q => h.run pos pins s σ H Q I (f σ H Q q)⟩
theorem PG_imp {X : Cx} {e : Expr} {t t' : TG} (h : PG X e t) (f : ∀ v σ H Q, t' v σ H Q → t v σ H Q) : PG X e t' := ⟨fun pins s σ H v u Q I r q => h.run pins s σ H v u Q I r (f v σ H Q q)⟩
theorem PS_imp {X : Cx} {e : Stmt} {t t' : TS} (h : PS X e t) (f : ∀ D σ H, t' D σ H → t D σ H) : PS X e t' := ⟨fun pins s σ H D I q => h.run pins s σ H D I (f D σ H q)⟩
theorem PSs_imp {X : Cx} {e : List Stmt} {t t' : TS} (h : PSs X e t) (f : ∀ D σ H, t' D σ H → t D σ H) : PSs X e t' := ⟨fun pins s σ H D I q => h.run pins s σ H D I (f D σ H q)⟩

section
variable {K : PySem.W.Frag} {mg : Str → Option Value} {W : WX} {H H1 : Hp} {σ : L2.St}
theorem XL.later (t : Tp H H1) {x : Ex} {μ : Sto} (h : XL K mg W σ H x μ) : XL K mg W σ H1 x μ := fun cls d H' t' s e => h cls d H' (t.trans t') s e
theorem QL.later (t : Tp H H1) {Q : VK} {x : D} {μ : Sto} (h : QL K H Q x μ) : QL K H1 Q x μ := fun v H' t' s e => h v H' (t.trans t') s e
theorem QBL.later (t : Tp H H1) {Q : Bool → Hp → Prop} {x : Bool} {μ : Sto} (h : QBL K H Q x μ) : QBL K H1 Q x μ := fun H' t' s => h H' (t.trans t') s
theorem QAL.later (t : Tp H H1) {Q : List V → Hp → Prop} {x : List D} {μ : Sto} (h : QAL K H Q x μ) : QAL K H1 Q x μ := fun v H' t' s e => h v H' (t.trans t') s e
theorem NL.later (t : Tp H H1) {Q : L2.St → Hp → Prop} {ρ : Ev} {μ : Sto} (h : NL K H Q ρ μ) : NL K H1 Q ρ μ := fun σ' H' t' e s => h σ' H' (t.trans t') e s
end
end PD
set_option Elab.async false
set_option linter.all false
set_option maxRecDepth 100000
set_option maxHeartbeats 4000000
namespace PD
open PySem PySem.Spec PyProof.Rows L2

section
variable {X : Cx} {W : WX} {a b c : Expr} {ta tb tc : DE} {pos : Pos}
/-! ### names, constants -/
theorem de_var (i : Nat) {x : Str} (hN : X.N[i]? = some x := by rfl) (hv : Vis X.env.scope x := by first | exact Or.inl rfl | exact Or.inr (Or.inl rfl) | exact Or.inr (Or.inr rfl))
    (hd : (x == ("__debug__" : Str)) = false := by decide) (hcd : (x == ("__classdict__" : Str)) = false := by decide) : PDE X W (.Name x pos) (dVar i) where
  mono := fun ρ μ Q Q' E E' hq _ h => opt_mono (fun d => hq d μ) h
  run := PE_imp (pe_var hN hv hd hcd) fun σ H Q ⟨ρ, μ, he, hs, h⟩ => by
    unfold dVar at h
    cases e : look ρ i with
    | none => rw [e] at h; exact h.elim
    | some d =>
      rw [e] at h
      obtain ⟨v, e1, r⟩ := he.2 i d e
      exact ⟨v, e1, h v H (.refl _) hs r⟩
theorem de_const {e : Expr} {v : V} {d : D} (h : PE X e (tC v)) (r : ∀ H, Rep X.K H d v) : PDE X W e (dC d) where
  mono := fun ρ μ Q Q' E E' hq _ h => hq _ _ h
  run := PE_imp h fun σ H Q ⟨ρ, μ, he, hs, q⟩ => q v H (.refl _) hs (r H)
theorem de_int {i : Int} {j} : PDE X W (.Constant (.int i) j pos) (dC (.int i)) := de_const pe_int fun _ => mk_int
theorem de_bl {i : Bool} {j} : PDE X W (.Constant (.bool i) j pos) (dC (.bl i)) := de_const pe_bl fun _ => mk_bl
theorem de_non {j} : PDE X W (.Constant .none j pos) (dC .non) := de_const pe_non fun _ => mk_non
theorem de_str {x : Str} {j} : PDE X W (.Constant (.str x) j pos) (dC (.str x)) := de_const pe_str fun _ => mk_str
/-- a module's constant -/
theorem de_globI {x : Str} {i : Int} {t : Tok} (hg : Gl X x) (hm : X.mg x = some (.int i t)) (hd : (x == ("__debug__" : Str)) = false := by decide) : PDE X W (.Name x pos) (dC (.int i)) :=
  de_const (pe_glob hg hm (v := .int i) ⟨t, rfl⟩ hd) fun _ => mk_int
theorem de_globS {x y : Str} {t : Tok} (hg : Gl X x) (hm : X.mg x = some (.str y t)) (hd : (x == ("__debug__" : Str)) = false := by decide) : PDE X W (.Name x pos) (dC (.str y)) :=
  de_const (pe_glob hg hm (v := .str y) ⟨t, rfl⟩ hd) fun _ => mk_str

/-! ### operators by values -/
structure Mon1 (g : U1) : Prop where
  mono : ∀ x μ Q Q', (∀ d μ', Q d μ' → Q' d μ') → g x μ Q → g x μ Q'
structure Mon2 (g : U2) : Prop where
  mono : ∀ x y μ Q Q', (∀ d μ', Q d μ' → Q' d μ') → g x y μ Q → g x y μ Q'
structure MonA (g : UA) : Prop where
  mono : ∀ xs μ Q Q', (∀ d μ', Q d μ' → Q' d μ') → g xs μ Q → g xs μ Q'
/-- what the data asks is enough for what the machine's rule asks -/
def Ln1 (K : PySem.W.Frag) (r : V → Hp → VK → Prop) (g : U1) : Prop := ∀ x μ (v : V) (H : Hp) (Q : VK), StR K H μ → Rep K H x v → g x μ (QL K H Q) → r v H Q
def Ln2 (K : PySem.W.Frag) (r : R2) (g : U2) : Prop := ∀ x y μ (v u : V) (H : Hp) (Q : VK), StR K H μ → Rep K H x v → Rep K H y u → g x y μ (QL K H Q) → r v u H Q
def LnA (K : PySem.W.Frag) (r : List V → Hp → VK → Prop) (g : UA) : Prop := ∀ xs μ (vs : List V) (H : Hp) (Q : VK), StR K H μ → RepL K H xs vs → g xs μ (QL K H Q) → r vs H Q

theorem lift1 {r : V → Hp → VK → Prop} {g : U1} (ha : PDE X W a ta) (m : Mon1 g) (l : Ln1 X.K r g) : ∀ σ H Q, lE X.K X.mg W (d1 g ta) σ H Q → tUn r (lE X.K X.mg W ta) σ H Q := fun σ H Q ⟨ρ, μ, he, hs, h⟩ =>
  ⟨ρ, μ, he, hs, ha.mono ρ μ _ _ _ _ (fun x μ1 q v H1 t1 s1 r1 => l x μ1 v H1 Q s1 r1 (m.mono _ _ _ _ (fun _ _ k => QL.later t1 k) q)) (fun _ _ k => k) h⟩
theorem lift2 {r : R2} {g : U2} (ha : PDE X W a ta) (hb : PDE X W b tb) (m : Mon2 g) (l : Ln2 X.K r g) : ∀ σ H Q, lE X.K X.mg W (d2 g ta tb) σ H Q → tOp r (lE X.K X.mg W ta) (lE X.K X.mg W tb) σ H Q := fun σ H Q ⟨ρ, μ, he, hs, h⟩ =>
  ⟨ρ, μ, he, hs, ha.mono ρ μ _ _ _ _ (fun x μ1 q v H1 t1 s1 r1 => ⟨ρ, μ1, he.tp t1, s1, hb.mono ρ μ1 _ _ _ _ (fun y μ2 q2 u H2 t2 s2 r2 =>
    l x y μ2 v u H2 Q s2 (r1.tp t2) r2 (m.mono _ _ _ _ _ (fun _ _ k => QL.later (t1.trans t2) k) q2)) (fun _ _ k => XL.later t1 k) q⟩) (fun _ _ k => k) h⟩
theorem mono1 {g : U1} (ha : PDE X W a ta) (m : Mon1 g) : ∀ ρ μ Q Q' E E', (∀ d μ', Q d μ' → Q' d μ') → (∀ x μ', E x μ' → E' x μ') → d1 g ta ρ μ Q E → d1 g ta ρ μ Q' E' := fun ρ μ Q Q' E E' hq hx h =>
  ha.mono ρ μ _ _ _ _ (fun x μ1 q => m.mono _ _ _ _ hq q) hx h
theorem mono2 {g : U2} (ha : PDE X W a ta) (hb : PDE X W b tb) (m : Mon2 g) : ∀ ρ μ Q Q' E E', (∀ d μ', Q d μ' → Q' d μ') → (∀ x μ', E x μ' → E' x μ') → d2 g ta tb ρ μ Q E → d2 g ta tb ρ μ Q' E' := fun ρ μ Q Q' E E' hq hx h =>
  ha.mono ρ μ _ _ _ _ (fun x μ1 q => hb.mono ρ μ1 _ _ _ _ (fun y μ2 q2 => m.mono _ _ _ _ _ hq q2) hx q) hx h
theorem de_op {op : Operator} {r : R2} {g : U2} (ho : OpR X (binaryOp op) r) (m : Mon2 g) (l : Ln2 X.K r g) (ha : PDE X W a ta) (hb : PDE X W b tb) : PDE X W (.BinOp a op b pos) (d2 g ta tb) :=
  ⟨mono2 ha hb m, PE_imp (pe_op ho ha.run hb.run) (lift2 ha hb m l)⟩
theorem de_cmp {op : CmpOp} {r : R2} {g : U2} (ho : OpR X (compareOp op) r) (m : Mon2 g) (l : Ln2 X.K r g) (ha : PDE X W a ta) (hb : PDE X W b tb) (hm : behindInMarks op b = false) : PDE X W (.Compare a [op] [b] pos) (d2 g ta tb) :=
  ⟨mono2 ha hb m, PE_imp (pe_cmpR ho ha.run hb.run hm) (lift2 ha hb m l)⟩
theorem de_un {op : UnaryOp} {r : V → Hp → VK → Prop} {g : U1} (ho : UnR X (unaryOp op) r) (m : Mon1 g) (l : Ln1 X.K r g) (ha : PDE X W a ta) : PDE X W (.UnaryOp op a pos) (d1 g ta) :=
  ⟨mono1 ha m, PE_imp (pe_un ho ha.run) (lift1 ha m l)⟩
theorem de_ix {r : R2} {g : U2} (hr : IxR X r) (m : Mon2 g) (l : Ln2 X.K r g) (ha : PDE X W a ta) (hb : PDE X W b tb) (hs : PlainIx b) : PDE X W (.Subscript a b pos) (d2 g ta tb) :=
  ⟨mono2 ha hb m, PE_imp (pe_ix hr ha.run hb.run hs) (lift2 ha hb m l)⟩

/-! ### arguments -/
variable {es : List Expr} {tr : DA}
theorem da_nil : PDA X W [] dNil where
  mono := fun ρ μ Q Q' E E' hq _ h => hq _ _ h
  run := PA_imp pa_nil fun σ H Q ⟨ρ, μ, he, hs, q⟩ => q [] H (.refl _) hs mk_nil
theorem da_cons (ha : PDE X W a ta) (hr : PDA X W es tr) (hs : starEach (a :: es) X.env = (false, eval a X.env) :: starEach es X.env := by rfl) : PDA X W (a :: es) (dCons ta tr) where
  mono := fun ρ μ Q Q' E E' hq hx h => ha.mono ρ μ _ _ _ _ (fun x μ1 q => hr.mono ρ μ1 _ _ _ _ (fun xs μ2 q2 => hq _ _ q2) hx q) hx h
  run := PA_imp (pa_cons ha.run hr.run hs) fun σ H Q ⟨ρ, μ, he, hs, h⟩ =>
    ⟨ρ, μ, he, hs, ha.mono ρ μ _ _ _ _ (fun x μ1 q v H1 t1 s1 r1 => ⟨ρ, μ1, he.tp t1, s1, hr.mono ρ μ1 _ _ _ _ (fun xs μ2 q2 vs H2 t2 s2 r2 =>
      q2 (v :: vs) H2 (t1.trans t2) s2 (mk_cons (r1.tp t2) r2)) (fun _ _ k => XL.later t1 k) q⟩) (fun _ _ k => k) h⟩
theorem de_args {e : Expr} {r : List V → Hp → VK → Prop} {g : UA} (h : ∀ {t : TA}, PA X es t → PE X e (tCB r t)) (m : MonA g) (l : LnA X.K r g) (ha : PDA X W es tr) : PDE X W e (dArgs g tr) where
  mono := fun ρ μ Q Q' E E' hq hx h => ha.mono ρ μ _ _ _ _ (fun xs μ1 q => m.mono _ _ _ _ hq q) hx h
  run := PE_imp (h ha.run) fun σ H Q ⟨ρ, μ, he, hs, h⟩ =>
    ⟨ρ, μ, he, hs, ha.mono ρ μ _ _ _ _ (fun xs μ1 q vs H1 t1 s1 r1 => l xs μ1 vs H1 Q s1 r1 (m.mono _ _ _ _ (fun _ _ k => QL.later t1 k) q)) (fun _ _ k => k) h⟩
/-- a built-in function of some arguments -/
theorem de_callB {x : Str} {p : Pos} {id : String} {r : List V → Hp → VK → Prop} {g : UA} (hc : CallR X (.builtin id) r) (m : MonA g) (l : LnA X.K r g) (hg : Gl X x) (hm : X.mg x = none) (hv : bootBuiltins x = some (.builtin id)) (ha : PDA X W (a :: es) tr)
    (hn : x ≠ "__name__" := by decide) (hdb : (x == ("__debug__" : Str)) = false := by decide)
    (he : starEach (a :: es) X.env = (false, eval a X.env) :: starEach es X.env := by rfl) (hpl : (backTo pos (starEach es X.env)).any (·.1) = false := by rfl) : PDE X W (.Call (.Name x p) (a :: es) [] pos) (dArgs g tr) :=
  de_args (fun h => pe_callB hc hg hm hv h hn hdb he hpl) m l ha
theorem de_callTy {x : Str} {p : Pos} {T : String} {r : List V → Hp → VK → Prop} {g : UA} (hc : CallR X (.type T) r) (m : MonA g) (l : LnA X.K r g) (hg : Gl X x) (hm : X.mg x = none) (hv : bootBuiltins x = some (.type T)) (ha : PDA X W (a :: es) tr)
    (hn : x ≠ "__name__" := by decide) (hdb : (x == ("__debug__" : Str)) = false := by decide)
    (he : starEach (a :: es) X.env = (false, eval a X.env) :: starEach es X.env := by rfl) (hpl : (backTo pos (starEach es X.env)).any (·.1) = false := by rfl) : PDE X W (.Call (.Name x p) (a :: es) [] pos) (dArgs g tr) :=
  de_args (fun h => pe_callTy hc hg hm hv h hn hdb he hpl) m l ha
theorem de_callBfun {x : Str} {p : Pos} {id : String} {r : List V → Hp → VK → Prop} {g : UA} (hc : CallR X (.builtin id) r) (m : MonA g) (l : LnA X.K r g) (hg : Gl X x) (hm : X.mg x = some (.builtin id)) (ha : PDA X W (a :: es) tr)
    (hdb : (x == ("__debug__" : Str)) = false := by decide)
    (he : starEach (a :: es) X.env = (false, eval a X.env) :: starEach es X.env := by rfl) (hpl : (backTo pos (starEach es X.env)).any (·.1) = false := by rfl) : PDE X W (.Call (.Name x p) (a :: es) [] pos) (dArgs g tr) :=
  de_args (fun h => pe_callBfun hc hg hm h hdb he hpl) m l ha
theorem line_le {n : Nat} (h : n ≤ LINE) : n ≤ sizeLine := by rw [sizeLine_eq]; exact h
theorem le_line {n : Nat} (h : n ≤ sizeLine) : n ≤ LINE := by rw [sizeLine_eq] at h; exact h
theorem line_lt {n : Nat} (h : n < LINE) : n < sizeLine := by rw [sizeLine_eq]; exact h
/-- a new tuple's object -/
def tupO (us : Array Value) : Obj := { cls := .type "tuple", data := .seq us }
theorem tupO_ok {P : Program} {w : World} {H : Hp} {h : Heap} {a : Addr} {xs : List V} {us : List Value} (z : xs.length ≤ sizeLine) (r : Vals xs us) (e : h.get? a = some (tupO us.toArray)) : ObjOk P w H h a (.frz (tupO us.toArray) (.tup xs)) :=
  ⟨e, z, us, r, _, e, rfl, _, rfl⟩
def tTupN (t : TA) : TE := fun σ H Q => t σ H fun xs H1 => xs.length ≤ sizeLine ∧ ∀ (o : Obj) p, o.dict = none → H1 p = none → Q (.ref p) (upd H1 p (.frz o (.tup xs)))
theorem pe_tupN {t : TA} {x1} (h : PA X es t) : PE X (.Tuple es x1 pos) (tTupN t) := ⟨fun pins s σ H Q I hq =>
  wpAny_Tuple_spliced (thn (h.run pos pins s σ H _ I hq) fun us s1 ⟨xs, H1, I1, r, z, q⟩ => ⟨by rw [← r.length]; exact z,
    .ref s1.heap.objs.size, _, I1.laid (t' := s1.toks) (fun _ _ e => Heap.get?_push_of_some _ e) (Nat.le_refl _) (tupO_ok z r (Heap.get?_push_size _ rfl)), rfl, q (tupO us.toArray) _ rfl (I1.hok.fresh (Nat.le_refl _))⟩)⟩
theorem de_tup {x1} (ha : PDA X W es tr) : PDE X W (.Tuple es x1 pos) (dTup tr) where
  mono := fun ρ μ Q Q' E E' hq hx h => ha.mono ρ μ _ _ _ _ (fun xs μ1 q => ⟨q.1, hq _ _ q.2⟩) hx h
  run := PE_imp (pe_tupN ha.run) fun σ H Q ⟨ρ, μ, he, hs, h⟩ =>
    ⟨ρ, μ, he, hs, ha.mono ρ μ _ _ _ _ (fun xs μ1 q vs H1 t1 s1 r1 => ⟨by rw [← r1.len]; exact line_le q.1, fun o p hd np =>
      q.2 (.ref p) _ (t1.trans (.new np)) (s1.new np) (mk_tup (.inl ⟨o, hd, upd_same⟩) (r1.tp (.new np)))⟩) (fun _ _ k => k) h⟩
theorem de_lst (ha : PDA X W es tr) : PDE X W (.List es pos) (dLst tr) where
  mono := fun ρ μ Q Q' E E' hq hx h => ha.mono ρ μ _ _ _ _ (fun xs μ1 q => ⟨q.1, fun p n => hq _ _ (q.2 p n)⟩) hx h
  run := PE_imp (pe_lst ha.run) fun σ H Q ⟨ρ, μ, he, hs, h⟩ =>
    ⟨ρ, μ, he, hs, ha.mono ρ μ _ _ _ _ (fun xs μ1 q vs H1 t1 s1 r1 => ⟨by rw [← r1.len]; exact line_le q.1, fun p np =>
      q.2 p (s1.untold np) (.ref p) _ (t1.trans (.new np)) (s1.newL np r1) mk_loc⟩) (fun _ _ k => k) h⟩

/-! ### a def of the text is called -/
def spL (K : PySem.W.Frag) (mg : Str → Option Value) (pr : Pr) : Sp := fun vs H Q E => ∃ ds μ, RepL K H ds vs ∧ StR K H μ ∧ pr ds μ (QL K H Q) (fun x μ' => ∀ cls d H', Tp H H' → StR K H' μ' → ExR K mg H' x cls d → E cls d H')
structure MonP (pr : Pr) : Prop where
  mono : ∀ ds μ Q Q' E E', (∀ d μ', Q d μ' → Q' d μ') → (∀ x μ', E x μ' → E' x μ') → pr ds μ Q E → pr ds μ Q' E'
theorem prBody_mono {n m : Nat} {body : DS} : MonP (prBody n m body) := ⟨fun ds μ Q Q' E E' hq hx ⟨Q0, E0, h1, h2, h3, h4⟩ =>
  ⟨Q0, E0, h1, h2, fun d μ1 k => let ⟨μ3, s, z⟩ := h3 d μ1 k; ⟨μ3, s, hq _ _ z⟩, fun x μ1 k => let ⟨μ3, s, z⟩ := h4 x μ1 k; ⟨μ3, s, hx _ _ z⟩⟩⟩
theorem de_call {x : Str} {p : Pos} {k : Nat} {f : Addr} {fd : FuncData} {ps : List Str} {pr : Pr} (F : FnOk X.prog X.w X.K X.mg X.base (L2.CX X.prog X.w) k f fd ps (spL X.K X.mg pr)) (m : MonP pr) (tk : Takes X W) (hr : Room k X.A) (hg : Gl X x) (hm : X.mg x = some (.ref f))
    (hk : PySem.W.keepIn X.K (.ref f) = true) (hb : Binds X.K fd ps []) (ha : PDA X W (a :: es) tr) (hdb : (x == ("__debug__" : Str)) = false := by decide)
    (he : starEach (a :: es) X.env = (false, eval a X.env) :: starEach es X.env := by rfl) (hpl : (backTo pos (starEach es X.env)).any (·.1) = false := by rfl) : PDE X W (.Call (.Name x p) (a :: es) [] pos) (dCall pr tr) where
  mono := fun ρ μ Q Q' E E' hq hx h => ha.mono ρ μ _ _ _ _ (fun xs μ1 q => m.mono _ _ _ _ _ _ hq hx q) hx h
  run := PE_imp (pe_callS F hr hg hm hk hb (fun σ => passAt tk σ) ha.run hdb he hpl) fun σ H Q ⟨ρ, μ, he, hs, h⟩ =>
    ⟨ρ, μ, he, hs, ha.mono ρ μ _ _ _ _ (fun xs μ1 q vs H1 t1 s1 r1 => ⟨xs, μ1, r1, s1, m.mono _ _ _ _ _ _
      (fun d μ2 k v H2 t2 s2 r2 => k v H2 (t1.trans t2) s2 r2) (fun y μ2 k cls d H2 t2 s2 r2 => k cls d H2 (t1.trans t2) s2 r2) q⟩) (fun _ _ k => k) h⟩
end
end PD
set_option Elab.async false
set_option linter.all false
set_option maxRecDepth 100000
set_option maxHeartbeats 4000000
namespace PD
open PySem PySem.Spec PyProof.Rows L2

section
variable {X : Cx} {W : WX} {a b c : Expr} {ta tb tc : DE} {tA tB : DT} {pos : Pos} {rest : List Expr}
/-! ### tests -/
theorem asB_mono {Q Q' : QB} (h : ∀ b μ, Q b μ → Q' b μ) {d : D} {μ : Sto} (q : asB Q d μ) : asB Q' d μ := by
  cases d <;> first | exact h _ _ q | exact q
theorem asB_ln {K : PySem.W.Frag} {H : Hp} {Q : Bool → Hp → Prop} {d : D} {μ : Sto} {v : V} {H1 : Hp} (q : asB (QBL K H Q) d μ) (t : Tp H H1) (s : StR K H1 μ) (r : Rep K H1 d v) : ∃ k, v = .bl k ∧ Q k H1 := by
  cases d with
  | bl b => exact ⟨b, rep_bl r, q H1 t s⟩
  | _ => exact False.elim q
theorem test_mono (h : PDE X W a ta) : ∀ ρ μ Q Q' E E', (∀ d μ', Q d μ' → Q' d μ') → (∀ x μ', E x μ' → E' x μ') → dTest ta ρ μ Q E → dTest ta ρ μ Q' E' := fun ρ μ Q Q' E E' hq hx k =>
  h.mono ρ μ _ _ _ _ (fun x μ1 q => asB_mono hq q) hx k
theorem test_lift (h : PDE X W a ta) : ∀ σ H Q, lT X.K X.mg W (dTest ta) σ H Q → lE X.K X.mg W ta σ H fun x H1 => ∃ k, x = .bl k ∧ Q k H1 := fun σ H Q ⟨ρ, μ, he, hs, k⟩ =>
  ⟨ρ, μ, he, hs, h.mono ρ μ _ _ _ _ (fun x μ1 q v H1 t1 s1 r1 => asB_ln q t1 s1 r1) (fun _ _ z => z) k⟩
/-- a test that is an expression of another kind -/
theorem dt_val (h : PDE X W a ta) (he : ∀ whole, isTrue a X.env whole = (do let v ← whole; standAt a.pos; holding [v] (truthy v)) := by intro _; rfl) : PDT X W a (dTest ta) :=
  ⟨test_mono h, PT_imp (pt_val h.run he) (test_lift h)⟩
theorem dt_cmp {op : CmpOp} {r : R2} {g : U2} (ho : OpR X (compareOp op) r) (m : Mon2 g) (l : Ln2 X.K r g) (ha : PDE X W a ta) (hb : PDE X W b tb) (hm : behindInMarks op b = false) : PDT X W (.Compare a [op] [b] pos) (dTest (d2 g ta tb)) :=
  have h := de_cmp (pos := pos) ho m l ha hb hm
  ⟨test_mono h, PT_imp (pt_cmpR ho ha.run hb.run hm) fun σ H Q k => lift2 ha hb m l σ H _ (test_lift h σ H Q k)⟩
theorem PDW.pt (h : PDW X W a tA) : PDT X W a tA := ⟨h.mono, h.run.pt⟩
theorem dw_and1 (h : PDT X W a tA) : PDW X W (.BoolOp .And [a] pos) tA := ⟨h.mono, pw_and1 h.run⟩
theorem dw_or1 (h : PDT X W a tA) : PDW X W (.BoolOp .Or [a] pos) tA := ⟨h.mono, pw_or1 h.run⟩
theorem dw_and (ha : PDT X W a tA) (hb : PDW X W (.BoolOp .And (b :: rest) pos) tB) : PDW X W (.BoolOp .And (a :: b :: rest) pos) (dAndT tA tB) where
  mono := fun ρ μ Q Q' E E' hq hx h => ha.mono ρ μ _ _ _ _ (fun c μ1 q => by
    cases c with
    | true => exact hb.mono ρ μ1 _ _ _ _ hq hx q
    | false => exact hq _ _ q) hx h
  run := PW_imp (pw_and ha.run hb.run) fun σ H Q ⟨ρ, μ, he, hs, h⟩ => ⟨ρ, μ, he, hs, ha.mono ρ μ _ _ _ _ (fun c μ1 q H1 t1 s1 => by
    cases c with
    | true => exact ⟨ρ, μ1, he.tp t1, s1, hb.mono ρ μ1 _ _ _ _ (fun _ _ k => QBL.later t1 k) (fun _ _ k => XL.later t1 k) q⟩
    | false => exact q H1 t1 s1) (fun _ _ z => z) h⟩
theorem dw_or (ha : PDT X W a tA) (hb : PDW X W (.BoolOp .Or (b :: rest) pos) tB) : PDW X W (.BoolOp .Or (a :: b :: rest) pos) (dOrT tA tB) where
  mono := fun ρ μ Q Q' E E' hq hx h => ha.mono ρ μ _ _ _ _ (fun c μ1 q => by
    cases c with
    | false => exact hb.mono ρ μ1 _ _ _ _ hq hx q
    | true => exact hq _ _ q) hx h
  run := PW_imp (pw_or ha.run hb.run) fun σ H Q ⟨ρ, μ, he, hs, h⟩ => ⟨ρ, μ, he, hs, ha.mono ρ μ _ _ _ _ (fun c μ1 q H1 t1 s1 => by
    cases c with
    | false => exact ⟨ρ, μ1, he.tp t1, s1, hb.mono ρ μ1 _ _ _ _ (fun _ _ k => QBL.later t1 k) (fun _ _ k => XL.later t1 k) q⟩
    | true => exact q H1 t1 s1) (fun _ _ z => z) h⟩
theorem dt_not (ha : PDT X W a tA) : PDT X W (.UnaryOp .Not a pos) (dNotT tA) where
  mono := fun ρ μ Q Q' E E' hq hx h => ha.mono ρ μ _ _ _ _ (fun c μ1 q => hq _ _ q) hx h
  run := PT_imp (pt_not ha.run) fun σ H Q ⟨ρ, μ, he, hs, h⟩ => ⟨ρ, μ, he, hs, ha.mono ρ μ _ _ _ _ (fun c μ1 q H1 t1 s1 => q H1 t1 s1) (fun _ _ z => z) h⟩
/-! .. as values -/
theorem de_one {op} (h : PDE X W a ta) : PDE X W (.BoolOp op [a] pos) ta := ⟨h.mono, pe_one h.run⟩
theorem asB_lnE {K : PySem.W.Frag} {P : Bool → Sto → Prop} {d : D} {μ : Sto} {v : V} {H1 : Hp} (q : asB P d μ) (r : Rep K H1 d v) : ∃ k, v = .bl k ∧ d = .bl k ∧ P k μ := by
  cases d with
  | bl b => exact ⟨b, rep_bl r, rfl, q⟩
  | _ => exact False.elim q
theorem de_and (ha : PDE X W a ta) (hb : PDE X W (.BoolOp .And (b :: rest) pos) tb) : PDE X W (.BoolOp .And (a :: b :: rest) pos) (dAndV ta tb) where
  mono := fun ρ μ Q Q' E E' hq hx h => ha.mono ρ μ _ _ _ _ (fun x μ1 q => asB_mono (fun c μ2 k => by
    cases c with
    | true => exact hb.mono ρ μ2 _ _ _ _ hq hx k
    | false => exact hq _ _ k) q) hx h
  run := PE_imp (pe_and ha.run hb.run) fun σ H Q ⟨ρ, μ, he, hs, h⟩ => ⟨ρ, μ, he, hs, ha.mono ρ μ _ _ _ _ (fun x μ1 q v H1 t1 s1 r1 => by
    obtain ⟨k, e, _, q⟩ := asB_lnE q r1
    refine ⟨k, e, ?_⟩
    cases k with
    | true => exact ⟨ρ, μ1, he.tp t1, s1, hb.mono ρ μ1 _ _ _ _ (fun _ _ k => QL.later t1 k) (fun _ _ k => XL.later t1 k) q⟩
    | false => exact q _ H1 t1 s1 mk_bl) (fun _ _ z => z) h⟩
theorem de_or (ha : PDE X W a ta) (hb : PDE X W (.BoolOp .Or (b :: rest) pos) tb) : PDE X W (.BoolOp .Or (a :: b :: rest) pos) (dOrV ta tb) where
  mono := fun ρ μ Q Q' E E' hq hx h => ha.mono ρ μ _ _ _ _ (fun x μ1 q => asB_mono (fun c μ2 k => by
    cases c with
    | false => exact hb.mono ρ μ2 _ _ _ _ hq hx k
    | true => exact hq _ _ k) q) hx h
  run := PE_imp (pe_or ha.run hb.run) fun σ H Q ⟨ρ, μ, he, hs, h⟩ => ⟨ρ, μ, he, hs, ha.mono ρ μ _ _ _ _ (fun x μ1 q v H1 t1 s1 r1 => by
    obtain ⟨k, e, _, q⟩ := asB_lnE q r1
    refine ⟨k, e, ?_⟩
    cases k with
    | false => exact ⟨ρ, μ1, he.tp t1, s1, hb.mono ρ μ1 _ _ _ _ (fun _ _ k => QL.later t1 k) (fun _ _ k => XL.later t1 k) q⟩
    | true => exact q _ H1 t1 s1 mk_bl) (fun _ _ z => z) h⟩
theorem de_not (ha : PDE X W a ta) : PDE X W (.UnaryOp .Not a pos) (dNotV ta) where
  mono := fun ρ μ Q Q' E E' hq hx h => ha.mono ρ μ _ _ _ _ (fun x μ1 q => asB_mono (fun c μ2 k => hq _ _ k) q) hx h
  run := PE_imp (pe_not ha.run) fun σ H Q ⟨ρ, μ, he, hs, h⟩ => ⟨ρ, μ, he, hs, ha.mono ρ μ _ _ _ _ (fun x μ1 q v H1 t1 s1 r1 => by
    obtain ⟨k, e, _, q⟩ := asB_lnE q r1
    exact ⟨k, e, q _ H1 t1 s1 mk_bl⟩) (fun _ _ z => z) h⟩
theorem de_if (hc : PDT X W c tA) (ha : PDE X W a ta) (hb : PDE X W b tb) : PDE X W (.IfExp c a b pos) (dIf tA ta tb) where
  mono := fun ρ μ Q Q' E E' hq hx h => hc.mono ρ μ _ _ _ _ (fun k μ1 q => by
    cases k with
    | true => exact ha.mono ρ μ1 _ _ _ _ hq hx q
    | false => exact hb.mono ρ μ1 _ _ _ _ hq hx q) hx h
  run := PE_imp (pe_ifExp hc.run ha.run hb.run) fun σ H Q ⟨ρ, μ, he, hs, h⟩ => ⟨ρ, μ, he, hs, hc.mono ρ μ _ _ _ _ (fun k μ1 q H1 t1 s1 => by
    cases k with
    | true => exact ⟨ρ, μ1, he.tp t1, s1, ha.mono ρ μ1 _ _ _ _ (fun _ _ k => QL.later t1 k) (fun _ _ k => XL.later t1 k) q⟩
    | false => exact ⟨ρ, μ1, he.tp t1, s1, hb.mono ρ μ1 _ _ _ _ (fun _ _ k => QL.later t1 k) (fun _ _ k => XL.later t1 k) q⟩) (fun _ _ z => z) h⟩
/-- a < b < c -/
theorem chain_mono {g h : U2} (mg : Mon2 g) (mh : Mon2 h) (ha : PDE X W a ta) (hb : PDE X W b tb) (hc : PDE X W c tc) : ∀ ρ μ Q Q' E E', (∀ d μ', Q d μ' → Q' d μ') → (∀ x μ', E x μ' → E' x μ') → dChain g h ta tb tc ρ μ Q E → dChain g h ta tb tc ρ μ Q' E' :=
  fun ρ μ Q Q' E E' hq hx k => ha.mono ρ μ _ _ _ _ (fun x μ1 q => hb.mono ρ μ1 _ _ _ _ (fun y μ2 q2 => mg.mono _ _ _ _ _ (fun z μ3 q3 => asB_mono (fun c μ4 q4 => by
    cases c with
    | true => exact hc.mono ρ μ4 _ _ _ _ (fun w μ5 q5 => mh.mono _ _ _ _ _ hq q5) hx q4
    | false => exact hq _ _ q4) q3) q2) hx q) hx k
theorem chain_lift {r r' : R2} {g h : U2} (mg : Mon2 g) (mh : Mon2 h) (lg : Ln2 X.K r g) (lh : Ln2 X.K r' h) (ha : PDE X W a ta) (hb : PDE X W b tb) (hc : PDE X W c tc) :
    ∀ σ H Q, lE X.K X.mg W (dChain g h ta tb tc) σ H Q → tChain r r' (lE X.K X.mg W ta) (lE X.K X.mg W tb) (lE X.K X.mg W tc) σ H Q := fun σ H Q ⟨ρ, μ, he, hs, k⟩ =>
  ⟨ρ, μ, he, hs, ha.mono ρ μ _ _ _ _ (fun x μ1 q v H1 t1 s1 r1 => ⟨ρ, μ1, he.tp t1, s1, hb.mono ρ μ1 _ _ _ _ (fun y μ2 q2 u H2 t2 s2 r2 =>
    lg x y μ2 v u H2 _ s2 (r1.tp t2) r2 (mg.mono _ _ _ _ _ (fun z μ3 q3 zv H3 t3 s3 r3 => by
      obtain ⟨kk, e, _, q3⟩ := asB_lnE q3 r3
      refine ⟨kk, e, ?_⟩
      cases kk with
      | true =>
        rw [if_pos rfl] at q3
        rw [if_pos rfl]
        exact ⟨ρ, μ3, he.tp (t1.trans (t2.trans t3)), s3, hc.mono ρ μ3 _ _ _ _ (fun w μ4 q4 wv H4 t4 s4 r4 =>
          lh y w μ4 u wv H4 Q s4 (r2.tp (t3.trans t4)) r4 (mh.mono _ _ _ _ _ (fun _ _ k => QL.later (t1.trans (t2.trans (t3.trans t4))) k) q4)) (fun _ _ k => XL.later (t1.trans (t2.trans t3)) k) q3⟩
      | false =>
        rw [if_neg Bool.false_ne_true] at q3
        rw [if_neg Bool.false_ne_true]
        exact q3 _ H3 (t1.trans (t2.trans t3)) s3 mk_bl) q2)) (fun _ _ k => XL.later t1 k) q⟩) (fun _ _ z => z) k⟩
theorem de_chain {op op' : CmpOp} {r r' : R2} {g h : U2} (ho : OpR X (compareOp op) r) (ho' : OpR X (compareOp op') r') (mg : Mon2 g) (mh : Mon2 h) (lg : Ln2 X.K r g) (lh : Ln2 X.K r' h) (ha : PDE X W a ta) (hb : PDE X W b tb) (hc : PDE X W c tc)
    (hm : lastMarks [op, op'] [b, c] = false := by with_unfolding_all rfl) : PDE X W (.Compare a [op, op'] [b, c] pos) (dChain g h ta tb tc) :=
  ⟨chain_mono mg mh ha hb hc, PE_imp (pe_chain ho ho' ha.run hb.run hc.run hm) (chain_lift mg mh lg lh ha hb hc)⟩
theorem dt_chain {op op' : CmpOp} {r r' : R2} {g h : U2} (ho : OpR X (compareOp op) r) (ho' : OpR X (compareOp op') r') (mg : Mon2 g) (mh : Mon2 h) (lg : Ln2 X.K r g) (lh : Ln2 X.K r' h) (ha : PDE X W a ta) (hb : PDE X W b tb) (hc : PDE X W c tc)
    (hm : lastMarks [op, op'] [b, c] = false := by with_unfolding_all rfl) : PDT X W (.Compare a [op, op'] [b, c] pos) (dTest (dChain g h ta tb tc)) :=
  have k := de_chain (pos := pos) ho ho' mg mh lg lh ha hb hc hm
  ⟨test_mono k, PT_imp (pt_chain ho ho' ha.run hb.run hc.run hm) fun σ H Q z => chain_lift mg mh lg lh ha hb hc σ H _ (test_lift k σ H Q z)⟩
end

section
variable {X : Cx} {W : WX} {st : Stmt} {rest : List Stmt} {e c : Expr} {te : DE} {tc : DT} {t u : DS} {g : DG} {pos : Pos}
/-! ### statements -/
theorem DK.Le.nx' {A B : DK} (h : DK.Le A B) {f f' : Ev → Sto → Prop} (k : ∀ ρ μ, f ρ μ → f' ρ μ) : DK.Le { A with nx := f } { B with nx := f' } := ⟨k, h.rt, h.bk, h.ct, h.ex⟩
theorem DK.Le.refl (A : DK) : DK.Le A A := ⟨fun _ _ z => z, fun _ _ z => z, fun _ _ z => z, fun _ _ z => z, fun _ _ _ z => z⟩
theorem DL.le {K : PySem.W.Frag} {mg : Str → Option Value} {W : WX} {H H1 : Hp} (t : Tp H H1) (D : Ends) : DK.Le (DL K mg W H D) (DL K mg W H1 D) :=
  ⟨fun _ _ k => NL.later t k, fun _ _ k => QL.later t k, fun _ _ k => NL.later t k, fun _ _ k => NL.later t k, fun _ _ _ k cls d σ' H' t' e s' x => k cls d σ' H' (t.trans t') e s' x⟩
theorem dss_nil : PDSs X W [] sNext := ⟨fun A B ρ μ l h => l.nx _ _ h, PSs_imp pss_nil fun D σ H ⟨ρ, μ, he, hs, h⟩ => h σ H (.refl _) he hs⟩
theorem dss_one (h : PDS X W st t) : PDSs X W [st] t := ⟨h.mono, pss_one h.run⟩
theorem dss_cons (h : PDS X W st t) (k : PDSs X W rest u) : PDSs X W (st :: rest) (sSeq t u) where
  mono := fun A B ρ μ l q => h.mono _ _ ρ μ (l.nx' fun ρ1 μ1 z => k.mono A B ρ1 μ1 l z) q
  run := PSs_imp (pss_cons h.run k.run) fun D σ H ⟨ρ, μ, he, hs, q⟩ => ⟨ρ, μ, he, hs, h.mono { DL X.K X.mg W H D with nx := u (DL X.K X.mg W H D) } _ ρ μ
    ⟨fun ρ1 μ1 z σ1 H1 t1 e1 s1 => ⟨ρ1, μ1, e1, s1, k.mono _ _ ρ1 μ1 (DL.le t1 D) z⟩, fun _ _ z => z, fun _ _ z => z, fun _ _ z => z, fun _ _ _ z => z⟩ q⟩
theorem ds_pass : PDS X W (.Pass pos) sNext := ⟨fun A B ρ μ l h => l.nx _ _ h, PS_imp ps_pass fun D σ H ⟨ρ, μ, he, hs, h⟩ => h σ H (.refl _) he hs⟩
theorem ds_break : PDS X W (.Break pos) sBreak := ⟨fun A B ρ μ l h => l.bk _ _ h, PS_imp ps_break fun D σ H ⟨ρ, μ, he, hs, h⟩ => h σ H (.refl _) he hs⟩
theorem ds_cont : PDS X W (.Continue pos) sCont := ⟨fun A B ρ μ l h => l.ct _ _ h, PS_imp ps_continue fun D σ H ⟨ρ, μ, he, hs, h⟩ => h σ H (.refl _) he hs⟩
theorem ex_xl {K : PySem.W.Frag} {mg : Str → Option Value} {W : WX} {H : Hp} {D : Ends} {σ : L2.St} {ρ : Ev} (he : EnR K H ρ σ) {x : Ex} {μ : Sto} (h : (DL K mg W H D).ex x ρ μ) : XL K mg W σ H x μ := fun cls d H' t s q => h cls d σ H' t (he.tp t) s q
theorem ds_expr (h : PDE X W e te) (hs : swapsWith e none pos.line X.env = pure false := by rfl) : PDS X W (.Expr e pos) (sDrop te) where
  mono := fun A B ρ μ l q => h.mono ρ μ _ _ _ _ (fun _ _ z => l.nx _ _ z) (fun _ _ z => l.ex _ _ _ z) q
  run := PS_imp (ps_expr h.run hs) fun D σ H ⟨ρ, μ, he, hs, q⟩ => ⟨ρ, μ, he, hs, h.mono ρ μ _ _ _ _ (fun d μ1 z v H1 t1 s1 r1 => z σ H1 t1 (he.tp t1) s1) (fun x μ1 z => ex_xl he z) q⟩
theorem ds_ret (h : PDE X W e te) : PDS X W (.Return (some e) pos) (sRet te) where
  mono := fun A B ρ μ l q => h.mono ρ μ _ _ _ _ (fun _ _ z => l.rt _ _ z) (fun _ _ z => l.ex _ _ _ z) q
  run := PS_imp (ps_ret h.run) fun D σ H ⟨ρ, μ, he, hs, q⟩ => ⟨ρ, μ, he, hs, h.mono ρ μ _ _ _ _ (fun d μ1 z => z) (fun x μ1 z => ex_xl he z) q⟩
theorem ds_retN : PDS X W (.Return none pos) sRetN := ⟨fun A B ρ μ l h => l.rt _ _ h, PS_imp ps_retN fun D σ H ⟨ρ, μ, he, hs, h⟩ => h .non H (.refl _) hs mk_non⟩
theorem ds_if {a b : List Stmt} (hc : PDT X W c tc) (ha : PDSs X W a t) (hb : PDSs X W b u) : PDS X W (.If c a b pos) (sIf tc t u) where
  mono := fun A B ρ μ l q => hc.mono ρ μ _ _ _ _ (fun k μ1 z => by
    cases k with
    | true => exact ha.mono A B ρ μ1 l z
    | false => exact hb.mono A B ρ μ1 l z) (fun _ _ z => l.ex _ _ _ z) q
  run := PS_imp (ps_if hc.run ha.run hb.run) fun D σ H ⟨ρ, μ, he, hs, q⟩ => ⟨ρ, μ, he, hs, hc.mono ρ μ _ _ _ _ (fun k μ1 z H1 t1 s1 => by
    cases k with
    | true => exact ⟨ρ, μ1, he.tp t1, s1, ha.mono _ _ ρ μ1 (DL.le t1 D) z⟩
    | false => exact ⟨ρ, μ1, he.tp t1, s1, hb.mono _ _ ρ μ1 (DL.le t1 D) z⟩) (fun x μ1 z => ex_xl he z) q⟩

/-! ### targets -/
theorem dg_name {i : Nat} {x : Str} (hN : X.N.Nodup) (hi : X.N[i]? = some x) (hx : Loc X.env.scope x) (hf : X.fn x = true ∨ X.env.scope.names.lookup x = some .local := by first | exact .inl rfl | exact .inr rfl | assumption) : PDG X W (.Name x pos) (gName i) where
  mono := fun d ρ μ Q Q' E E' hq _ h => hq _ _ h
  run := PG_imp (pg_name hN hi hx hf) fun v σ H Q ⟨d, ρ, μ, r, he, hs, h⟩ => h _ H (.refl _) (he.set i r) hs
theorem ds_asg {tg : Expr} (h : PDE X W e te) (hg : PDG X W tg g) (hs : swapsWithSole [tg] e pos.line X.env = pure false := by rfl) (hw : swappedStores [tg] e X.env = pure none := by rfl)
    (h1 : (assignEach [tg] X.env).map (·.2) = [assign tg X.env] := by rfl) : PDS X W (.Assign [tg] e pos) (sAsg te g) where
  mono := fun A B ρ μ l q => h.mono ρ μ _ _ _ _ (fun d μ1 z => hg.mono _ _ _ _ _ _ _ l.nx (fun _ _ z => l.ex _ _ _ z) z) (fun _ _ z => l.ex _ _ _ z) q
  run := PS_imp (ps_asg h.run hg.run hs hw h1) fun D σ H ⟨ρ, μ, he, hs, q⟩ => ⟨ρ, μ, he, hs, h.mono ρ μ _ _ _ _ (fun d μ1 z v H1 t1 s1 r1 =>
    ⟨d, ρ, μ1, r1, he.tp t1, s1, hg.mono _ _ _ _ _ _ _ (fun _ _ k => NL.later t1 k) (fun x μ2 k => XL.later t1 (ex_xl he k)) z⟩) (fun x μ1 z => ex_xl he z) q⟩
theorem ds_set {i : Nat} {x : Str} {pos' : Pos} (hN : X.N.Nodup) (hi : X.N[i]? = some x) (hx : Loc X.env.scope x) (h : PDE X W e te) (hs : swapsWith e (some (.Name x pos')) pos.line X.env = pure false := by rfl)
    (hf : X.fn x = true ∨ X.env.scope.names.lookup x = some .local := by first | exact .inl rfl | exact .inr rfl | assumption) : PDS X W (.Assign [.Name x pos'] e pos) (sAsg te (gName i)) where
  mono := fun A B ρ μ l q => h.mono ρ μ _ _ _ _ (fun d μ1 z => l.nx _ _ z) (fun _ _ z => l.ex _ _ _ z) q
  run := PS_imp (ps_set hN hi hx h.run hs hf) fun D σ H ⟨ρ, μ, he, hs, q⟩ => ⟨ρ, μ, he, hs, h.mono ρ μ _ _ _ _ (fun d μ1 z v H1 t1 s1 r1 =>
    z _ H1 t1 ((he.tp t1).set i r1) s1) (fun x μ1 z => ex_xl he z) q⟩
theorem ds_par {i j : Nat} {x y : Str} {a b : Expr} {ta tb : DE} {px py pt : Pos} {kt k2 pt2} (hc : X.calm = true) (hN : X.N.Nodup) (hi : X.N[i]? = some x) (hj : X.N[j]? = some y) (hij : i ≠ j)
    (hx : X.env.scope.names.lookup x = some .local) (hy : X.env.scope.names.lookup y = some .local) (ha : PDE X W a ta) (hb : PDE X W b tb)
    (hw : swappedStores [.Tuple [.Name x px, .Name y py] kt pt] (.Tuple [a, b] k2 pt2) X.env = pure (some [x, y]))
    (hs : swapsWithSole [.Tuple [.Name x px, .Name y py] kt pt] (.Tuple [a, b] k2 pt2) pos.line X.env = pure false := by rfl)
    (s1 : starEach [a, b] X.env = (false, eval a X.env) :: starEach [b] X.env := by rfl) (s2 : starEach [b] X.env = (false, eval b X.env) :: starEach [] X.env := by rfl) :
    PDS X W (.Assign [.Tuple [.Name x px, .Name y py] kt pt] (.Tuple [a, b] k2 pt2) pos) (sPar i j ta tb) where
  mono := fun A B ρ μ l q => ha.mono ρ μ _ _ _ _ (fun d μ1 z => hb.mono ρ μ1 _ _ _ _ (fun f μ2 z2 => l.nx _ _ z2) (fun _ _ z => l.ex _ _ _ z) z) (fun _ _ z => l.ex _ _ _ z) q
  run := PS_imp (ps_par hc hN hi hj hij hx hy (pa_cons ha.run (pa_cons hb.run pa_nil s2) s1) hw hs) fun D σ H ⟨ρ, μ, he, hs, q⟩ => ⟨ρ, μ, he, hs, ha.mono ρ μ _ _ _ _ (fun d μ1 z v H1 t1 s1 r1 =>
    ⟨ρ, μ1, he.tp t1, s1, hb.mono ρ μ1 _ _ _ _ (fun f μ2 z2 w H2 t2 s2 r2 => ⟨v, w, rfl, z2 _ H2 (t1.trans t2) (((he.tp (t1.trans t2)).set i (r1.tp t2)).set j r2) s2⟩) (fun x μ2 k => XL.later t1 (ex_xl he k)) z⟩) (fun x μ1 z => ex_xl he z) q⟩
/-- names out of a tuple: which -/
inductive Nms (X : Cx) : List Expr → List Nat → Prop where
  | nil : Nms X [] []
  | cons {i : Nat} {x : Str} {p : Pos} {es : List Expr} {is : List Nat} (hi : X.N[i]? = some x) (hx : Loc X.env.scope x) (hf : X.fn x = true ∨ X.env.scope.names.lookup x = some .local)
      (hs : (assignEach (.Name x p :: es) X.env).map (·.2) = assign (.Name x p) X.env :: (assignEach es X.env).map (·.2)) (r : Nms X es is) : Nms X (.Name x p :: es) (i :: is)
/-- the machine's layer's target for them -/
def gsOf : List Nat → TGs
  | [] => gNil
  | i :: is => gCons (L2.gName i) (gsOf is)
theorem nms_pgs {es : List Expr} {is : List Nat} (hN : X.N.Nodup) (h : Nms X es is) : PGs X es (gsOf is) := by
  induction h with
  | nil => exact pgs_nil
  | cons hi hx hf hs r ih => exact pgs_cons (pg_name hN hi hx hf) ih hs
theorem gs_ln {K : PySem.W.Frag} {H : Hp} {P : Ev → Sto → Prop} {μ : Sto} : ∀ {is : List Nat} {ds : List D} {vs : List V} {ρ : Ev} {σ : L2.St}, gNames is ds ρ μ P → RepL K H ds vs → EnR K H ρ σ → ∀ {Q : L2.St → Hp → Prop}, (∀ ρ' σ', P ρ' μ → EnR K H ρ' σ' → Q σ' H) → gsOf is vs σ H Q
  | [], [], _, _, _, h, r, he, _, hq => ⟨repl_nil r, hq _ _ h he⟩
  | i :: is, d :: ds, _, _, _, h, r, he, _, hq => by
    obtain ⟨v, w, ev, r1, r2⟩ := repl_cons r
    exact ⟨v, w, ev, gs_ln (is := is) (ds := ds) h r2 (he.set i r1) hq⟩
  | [], _ :: _, _, _, _, h, _, _, _, _ => h.elim
  | _ :: _, [], _, _, _, h, _, _, _, _ => h.elim
theorem gNames_mono {Q Q' : Ev → Sto → Prop} {μ : Sto} (hq : ∀ ρ μ, Q ρ μ → Q' ρ μ) : ∀ {is : List Nat} {ds : List D} {ρ : Ev}, gNames is ds ρ μ Q → gNames is ds ρ μ Q'
  | [], [], _, h => hq _ _ h
  | i :: is, d :: ds, ρ, h => gNames_mono hq (is := is) (ds := ds) (ρ := setE ρ i (some d)) h
  | [], _ :: _, _, h => h.elim
  | _ :: _, [], _, h => h.elim
theorem gNames_len {Q : Ev → Sto → Prop} {μ : Sto} : ∀ {is : List Nat} {ds : List D} {ρ : Ev}, gNames is ds ρ μ Q → is.length = ds.length
  | [], [], _, _ => rfl
  | i :: is, d :: ds, ρ, h => congrArg Nat.succ (gNames_len (is := is) (ds := ds) (ρ := setE ρ i (some d)) h)
  | [], _ :: _, _, h => h.elim
  | _ :: _, [], _, h => h.elim
theorem dg_tup {es : List Expr} {is : List Nat} {k : Nat} (hc : X.calm = true) (hN : X.N.Nodup) (h : Nms X es is) (hn : (assignEach es X.env).length = is.length := by rfl) (hst : (assignEach es X.env).findIdx? (·.1) = none := by rfl) : PDG X W (.Tuple es k pos) (gTup is) where
  mono := fun d ρ μ Q Q' E E' hq _ h => by
    cases d <;> first | exact gNames_mono hq h | exact h
  run := PG_imp (pg_tup hc (nms_pgs hN h) hn hst) fun v σ H Q ⟨d, ρ, μ, r, he, hs, h⟩ => by
    cases d with
    | tup ds =>
      obtain ⟨a, vs, e, q, r2⟩ := rep_tup r
      refine ⟨a, vs, e, q.seq, by rw [← r2.len]; exact (gNames_len h).symm, gs_ln h r2 he fun ρ' σ' k e' => k σ' H (.refl _) e' hs⟩
    | wtup ds =>
      obtain ⟨a, vs, e, q, r2⟩ := rep_wtup r
      refine ⟨a, vs, e, q, by rw [← r2.len]; exact (gNames_len h).symm, gs_ln h r2 he fun ρ' σ' k e' => k σ' H (.refl _) e' hs⟩
    | _ => exact False.elim h
theorem ixN_eq (n : Nat) (i : Int) : L2.ixN n i = ixN n i := rfl
/-- xs[i] = v -/
theorem dg_sub {o i : Expr} {to ti : DE} (ho : PDE X W o to) (hi : PDE X W i ti)
    (ha : ∀ v, assign (.Subscript o i pos) X.env v = (do
      let ov ← holding [v] (eval o X.env)
      let iv ← holding [v, ov] (eval i X.env)
      standAt pos
      holding [v, ov, iv] (setItem ov iv v)
      release [v, ov, iv] []) := by intro _; rfl) : PDG X W (.Subscript o i pos) (gSub to ti) where
  mono := fun d ρ μ Q Q' E E' hq hx h => ho.mono ρ μ _ _ _ _ (fun x μ1 z => hi.mono ρ μ1 _ _ _ _ (fun y μ2 z2 => by
    cases x <;> first | exact z2.elim | skip
    rename_i p
    cases y <;> first | exact z2.elim | skip
    rename_i k
    exact opt_mono (fun xs z3 => opt_mono (fun j z => hq _ _ z) z3) z2) hx z) hx h
  run := PG_imp (pg_sub ho.run hi.run set_list ha) fun v σ H Q ⟨d, ρ, μ, r, he, hs, h⟩ => ⟨ρ, μ, he, hs, ho.mono ρ μ _ _ _ _ (fun x μ1 z ov H1 t1 s1 r1 =>
    ⟨ρ, μ1, he.tp t1, s1, hi.mono ρ μ1 _ _ _ _ (fun y μ2 z2 iv H2 t2 s2 r2 => by
      cases x <;> first | exact z2.elim | skip
      rename_i p
      cases y <;> first | exact z2.elim | skip
      rename_i k
      obtain ⟨xs, e, z2⟩ := opt_ex z2
      obtain ⟨j, ej, z2⟩ := opt_ex z2
      obtain ⟨vs, hv, rv⟩ := s2.lst e
      have rr : RepL X.K H2 (xs.set j d) (vs.set j v) := RepL.set (r.tp (t1.trans t2)) j rv
      exact ⟨p, vs, k, j, rep_loc (r1.tp t2), rep_int r2, hv, by rw [← rv.len]; exact ej, z2 σ _ ((t1.trans t2).trans (.lst hv)) (he.tp ((t1.trans t2).trans (.lst hv))) (s2.setL hv rr)⟩) (fun _ _ k => XL.later t1 k) z⟩) (fun _ _ z => z) h⟩
end
end PD
set_option Elab.async false
set_option linter.all false
set_option maxRecDepth 100000
set_option maxHeartbeats 4000000
namespace PD
open PySem PySem.Spec PyProof.Rows L2

/-! ### what is walked -/
structure JR (K : PySem.W.Frag) (H0 : Hp) (J : It) (xs : List D) (G : Sto → Prop) : Prop where
  stop : ∀ i μ H, Tp H0 H → G μ → StR K H μ → xs.length ≤ i → J.stop i H
  go : ∀ i μ H, Tp H0 H → G μ → StR K H μ → i < xs.length → J.go i H
  yld : ∀ i μ H v H', Tp H0 H → G μ → StR K H μ → i < xs.length → J.yld i H v H' → Tp H H' ∧ StR K H' μ ∧ ∃ d, xs[i]? = some d ∧ Rep K H' d v
def lI (K : PySem.W.Frag) (mg : Str → Option Value) (W : WX) (dw : DI) : TI := fun σ H R => ∃ ρ μ, EnR K H ρ σ ∧ StR K H μ ∧ dw ρ μ (fun xs G μ' => ∀ J H', Tp H H' → StR K H' μ' → JR K H' J xs G → R J H') (XL K mg W σ H)
structure PDI (X : Cx) (W : WX) (tg iter : Expr) (dw : DI) : Prop where
  mono : ∀ ρ μ R R' E E', (∀ xs G μ', R xs G μ' → R' xs G μ') → (∀ x μ', E x μ' → E' x μ') → dw ρ μ R E → dw ρ μ R' E'
  run : PI X tg iter (lI X.K X.mg W dw)

section
variable {X : Cx} {W : WX} {tg iter c : Expr} {body : List Stmt} {dw : DI} {g : DG} {tb : DS} {tc : DT} {pos : Pos}
theorem forW_mono {G : Sto → Prop} (hg : ∀ d ρ μ Q Q' E E', (∀ ρ' μ', Q ρ' μ' → Q' ρ' μ') → (∀ x μ', E x μ' → E' x μ') → g d ρ μ Q E → g d ρ μ Q' E') (hb : ∀ A B ρ μ, DK.Le A B → tb A ρ μ → tb B ρ μ) {A B : DK} (l : DK.Le A B) :
    ∀ (xs : List D) (ρ : Ev) (μ : Sto), forW G g tb A xs ρ μ → forW G g tb B xs ρ μ
  | [], ρ, μ, h => ⟨h.1, l.nx _ _ h.2⟩
  | x :: xs, ρ, μ, h => ⟨h.1, hg _ _ _ _ _ _ _ (fun ρ1 μ1 z => hb { A with nx := forW G g tb A xs, ct := forW G g tb A xs, bk := A.nx } _ ρ1 μ1 ⟨forW_mono hg hb l xs, l.rt, l.nx, forW_mono hg hb l xs, l.ex⟩ z) (fun _ _ z => l.ex _ _ _ z) h.2⟩
theorem ds_for (hp : PassesOwn (model X.prog X.w) X.A X.env X.xe) (hc : X.calm = true) (hi : PDI X W tg iter dw) (hg : PDG X W tg g) (hb : PDSs X W body tb)
    (hs : ∀ x, foldedSetIterable iter X.env x = pure x := by intro _; rfl) : PDS X W (.For tg iter body [] pos) (sFor dw g tb) where
  mono := fun A B ρ μ l h => hi.mono ρ μ _ _ _ _ (fun xs G μ1 z => forW_mono hg.mono hb.mono l xs ρ μ1 z) (fun _ _ z => l.ex _ _ _ z) h
  run := PS_imp (ps_for hp hc hi.run hg.run hb.run hs) fun D σ H ⟨ρ, μ, he, hs, h⟩ => ⟨ρ, μ, he, hs, hi.mono ρ μ _ _ _ _ (fun xs G μ1 z J H1 t1 s1 jr => by
    refine ⟨fun i m σ' H' => ∃ ρ' μ', Tp H1 H' ∧ EnR X.K H' ρ' σ' ∧ StR X.K H' μ' ∧ i + m = xs.length ∧ forW G g tb (DL X.K X.mg W H D) (xs.drop i) ρ' μ', ⟨xs.length, ρ, μ1, .refl _, he.tp t1, s1, Nat.zero_add _, z⟩, ?_⟩
    rintro i m σ' H' ⟨ρ', μ', t', e', s', hm, hw⟩
    cases m with
    | zero =>
      have hl : xs.length ≤ i := by omega
      rw [List.drop_eq_nil_of_le hl] at hw
      exact .inl ⟨jr.stop i μ' H' t' hw.1 s' hl, hw.2 σ' H' (t1.trans t') e' s'⟩
    | succ m =>
      have hl : i < xs.length := by omega
      rw [List.drop_eq_getElem_cons hl] at hw
      refine .inr ⟨jr.go i μ' H' t' hw.1 s' hl, fun σ2 H2 => ∃ ρ' μ', Tp H1 H2 ∧ EnR X.K H2 ρ' σ2 ∧ StR X.K H2 μ' ∧ (i + 1) + m = xs.length ∧ forW G g tb (DL X.K X.mg W H D) (xs.drop (i + 1)) ρ' μ', fun σ2 H2 k => ⟨m, Nat.lt_succ_self _, k⟩, fun v H2 y => ?_⟩
      obtain ⟨t2, s2, d, ed, rd⟩ := jr.yld i μ' H' v H2 t' hw.1 s' hl y
      obtain rfl : d = xs[i] := by rw [List.getElem?_eq_getElem hl] at ed; exact (Option.some.inj ed).symm
      refine ⟨xs[i], ρ', μ', rd, e'.tp t2, s2, hg.mono _ _ _ _ _ _ _ (fun ρ3 μ3 z3 σ3 H3 t3 e3 s3 => ⟨ρ3, μ3, e3, s3, hb.mono _ _ ρ3 μ3 ?_ z3⟩) (fun x μ3 z3 => ?_) hw.2⟩
      · have tt : Tp H H3 := t1.trans (t'.trans (t2.trans t3))
        have nx : ∀ ρ4 μ4, forW G g tb (DL X.K X.mg W H D) (xs.drop (i + 1)) ρ4 μ4 → NL X.K H3 (fun σ2 H2 => ∃ ρ' μ', Tp H1 H2 ∧ EnR X.K H2 ρ' σ2 ∧ StR X.K H2 μ' ∧ (i + 1) + m = xs.length ∧ forW G g tb (DL X.K X.mg W H D) (xs.drop (i + 1)) ρ' μ') ρ4 μ4 :=
          fun ρ4 μ4 k σ4 H4 t4 e4 s4 => ⟨ρ4, μ4, t'.trans (t2.trans (t3.trans t4)), e4, s4, by omega, k⟩
        exact ⟨nx, fun _ _ k => QL.later tt k, fun _ _ k => NL.later tt k, nx, fun _ _ _ k cls d σ' H' t' e s' x => k cls d σ' H' (tt.trans t') e s' x⟩
      · exact fun cls d H' t3 s3 q => z3 cls d σ' H' (t1.trans (t'.trans (t2.trans t3))) (e'.tp (t2.trans t3)) s3 q) (fun x μ1 z => ex_xl he z) h⟩
theorem whileW_mono (hc : ∀ ρ μ Q Q' E E', (∀ d μ', Q d μ' → Q' d μ') → (∀ x μ', E x μ' → E' x μ') → tc ρ μ Q E → tc ρ μ Q' E') (hb : ∀ A B ρ μ, DK.Le A B → tb A ρ μ → tb B ρ μ) {A B : DK} (l : DK.Le A B) :
    ∀ (n : Nat) (ρ : Ev) (μ : Sto), whileW tc tb A n ρ μ → whileW tc tb B n ρ μ
  | 0, ρ, μ, h => h
  | n + 1, ρ, μ, h => hc _ _ _ _ _ _ (fun b μ1 z => by
    cases b with
    | true => exact hb { A with nx := whileW tc tb A n, ct := whileW tc tb A n, bk := A.nx } _ ρ μ1 ⟨whileW_mono hc hb l n, l.rt, l.nx, whileW_mono hc hb l n, l.ex⟩ z
    | false => exact l.nx _ _ z) (fun _ _ z => l.ex _ _ _ z) h
theorem ds_while (hp : PassesOwn (model X.prog X.w) X.A X.env X.xe) (hc : PDT X W c tc) (hb : PDSs X W body tb) : PDS X W (.While c body [] pos) (sWhile tc tb) where
  mono := fun A B ρ μ l ⟨n, h⟩ => ⟨n, whileW_mono hc.mono hb.mono l n ρ μ h⟩
  run := PS_imp (ps_while hp hc.run hb.run) fun D σ H ⟨ρ, μ, he, hs, n0, h⟩ => by
    refine ⟨fun n σ' H' => ∃ ρ' μ', Tp H H' ∧ EnR X.K H' ρ' σ' ∧ StR X.K H' μ' ∧ whileW tc tb (DL X.K X.mg W H D) n ρ' μ', ⟨n0, ρ, μ, .refl _, he, hs, h⟩, ?_⟩
    rintro n σ' H' ⟨ρ', μ', t', e', s', hw⟩
    cases n with
    | zero => exact hw.elim
    | succ n =>
      refine ⟨ρ', μ', e', s', hc.mono _ _ _ _ _ _ (fun b μ1 z H1 t1 s1 => ?_) (fun x μ1 z cls d H1 t1 s1 q => z cls d σ' H1 (t'.trans t1) (e'.tp t1) s1 q) hw⟩
      cases b with
      | false => exact z σ' H1 (t'.trans t1) (e'.tp t1) s1
      | true =>
        rw [if_pos rfl]
        refine ⟨fun σ2 H2 => ∃ ρ' μ', Tp H H2 ∧ EnR X.K H2 ρ' σ2 ∧ StR X.K H2 μ' ∧ whileW tc tb (DL X.K X.mg W H D) n ρ' μ', fun σ2 H2 k => ⟨n, Nat.lt_succ_self _, k⟩, ρ', μ1, e'.tp t1, s1, hb.mono _ _ ρ' μ1 ?_ z⟩
        have tt : Tp H H1 := t'.trans t1
        have nx : ∀ ρ4 μ4, whileW tc tb (DL X.K X.mg W H D) n ρ4 μ4 → NL X.K H1 (fun σ2 H2 => ∃ ρ' μ', Tp H H2 ∧ EnR X.K H2 ρ' σ2 ∧ StR X.K H2 μ' ∧ whileW tc tb (DL X.K X.mg W H D) n ρ' μ') ρ4 μ4 :=
          fun ρ4 μ4 k σ4 H4 t4 e4 s4 => ⟨ρ4, μ4, tt.trans t4, e4, s4, k⟩
        exact ⟨nx, fun _ _ k => QL.later tt k, fun _ _ k => NL.later tt k, nx, fun _ _ _ k cls d σ' H' t' e s' x => k cls d σ' H' (tt.trans t') e s' x⟩
end

/-! ### a def, by its body -/
section
variable {P : Program} {w : World} {K : PySem.W.Frag} {mg : Str → Option Value} {base : Heap}
theorem look_start : ∀ (ds : List D) (m i : Nat) (d : D), look (ds.map some ++ List.replicate m none) i = some d → ds[i]? = some d
  | [], m, i, d, h => by
    exfalso
    induction m generalizing i with
    | zero => simp [look] at h
    | succ m ih =>
      cases i with
      | zero => simp [look, List.replicate_succ] at h
      | succ i => exact ih i (by simpa [look, List.replicate_succ] using h)
  | x :: ds, m, 0, d, h => by simpa [look] using h
  | x :: ds, m, i + 1, d, h => by simpa using look_start ds m i d (by simpa [look] using h)
theorem en_start {H : Hp} {N : List Str} {ds : List D} {vs : List V} {n : Nat} (r : RepL K H ds vs) (hn : ds.length = n) (hN : n ≤ N.length) : EnR K H (ds.map some ++ List.replicate (N.length - n) none) (L2.start N vs) := by
  have hl := r.len
  refine ⟨?_, fun i d h => ?_⟩
  · unfold L2.start
    simp only [List.length_append, List.length_map, List.length_replicate]
    omega
  · have h1 := look_start ds _ i d h
    obtain ⟨v, hv, rv⟩ := r.get h1
    refine ⟨v, ?_, rv⟩
    unfold L2.start
    have hi : i < vs.length := by
      rcases Nat.lt_or_ge i vs.length with z | z
      · exact z
      · rw [List.getElem?_eq_none z] at hv; cases hv
    rw [List.getElem?_append_left (by simpa using hi), List.getElem?_map, hv]
    rfl
theorem fn_ok {x qual : Str} {st : Stmt} {f : Addr} {fd : FuncData} {N ps : List Str} {k : Nat} {body : DS} (F : Fun K x qual st f fd) (S : FnScope N ps (defScope st))
    (hb : ∀ (cdv : Value) (A : Around) (outer : List PySem.Env) (s : Shared) (H : Hp) (E : XK), Room k (A.deeper (envOfC qual (defScope st) s.heap.objs.size f cdv)) →
      PDSs (cxOf (L2.CX P w) P w K mg base N qual (defScope st) f cdv A outer s H E) (fun cls d _ H => E cls d H) (defBody st) body) :
    FnOk P w K mg base (L2.CX P w) (k + 1) f fd ps (spL K mg (prBody ps.length (N.length - ps.length) body)) := by
  have hN : ps.length ≤ N.length := by have := congrArg List.length S.pre; rw [List.length_take] at this; omega
  refine F.okX S (fun vs H Q E h => ?_) (fun cdv A outer s H vs Q E hr h => ?_)
  · obtain ⟨ds, μ, r, _, Q0, E0, hl, _⟩ := h
    rw [← r.len]; exact hl
  · obtain ⟨ds, μ, r, hs, Q0, E0, hl, hw, h3, h4⟩ := h
    have B := hb cdv A outer s H E hr
    refine ⟨_, B.run, _, μ, en_start r hl hN, hs, B.mono _ _ _ μ ?_ hw⟩
    refine ⟨fun ρ1 μ1 z σ' H' t e s' => ?_, fun d μ1 z v H' t s' q => ?_, fun _ _ z => z.elim, fun _ _ z => z.elim, fun x ρ1 μ1 z cls d σ' H' t e s' q => ?_⟩
    · obtain ⟨μ3, sb, q⟩ := h3 _ _ z
      exact q .non H' t (s'.sub sb) mk_non
    · obtain ⟨μ3, sb, q2⟩ := h3 _ _ z
      exact q2 v H' t (s'.sub sb) q
    · obtain ⟨μ3, sb, q2⟩ := h4 _ _ z
      exact q2 cls d H' t (s'.sub sb) q
end
end PD
set_option Elab.async false
set_option linter.all false
set_option maxRecDepth 100000
set_option maxHeartbeats 4000000
namespace PD
open PySem PySem.Spec PyProof.Rows L2

section
variable {X : Cx} {W : WX} {tg e : Expr} {te : DE} {pins : List (Addr × Obj)} {σ : L2.St} {H : Hp} {s : Shared} {R : It → Hp → Prop} {a : Addr} {vs : List V}
/-! ### a list, a tuple -/
theorem it_list (I : Inv X pins σ H s) (hq : SqL X.K H a vs) (q : R (Itl X.K a) H) : wpAny (model X.prog X.w) X.A (pyIter (.ref a)) (PIE X pins σ tg R) X.xe s := by
  obtain ⟨its, rv, pl, hz⟩ := I.list hq
  refine wpAny_pyIter_list pl.isList ⟨s.heap.objs.size, [s.heap.objs.size], _, _, H, rfl, I.kept (t' := s.toks) fun b o z => Heap.get?_push_of_some _ z, turn_list a _, ⟨_, Heap.get?_push_size _ rfl, rfl, rfl⟩, fun b hb => ?_, q⟩
  obtain rfl : b = s.heap.objs.size := by simpa using hb
  exact I.fpOk (Nat.le_refl _) (I.hok.fresh (Nat.le_refl _))
theorem it_tup (I : Inv X pins σ H s) (hq : SqT X.K H a vs) (q : R (Itt X.K a) H) : wpAny (model X.prog X.w) X.A (pyIter (.ref a)) (PIE X pins σ tg R) X.xe s := by
  obtain ⟨its, rv, pl, hz⟩ := I.tuple hq
  refine wpAny_pyIter_tuple (show s.heap.IsTuple a its.toArray from pl) ⟨s.heap.objs.size, [s.heap.objs.size], _, _, H, rfl, I.kept (t' := s.toks) fun b o z => Heap.get?_push_of_some _ z, turn_tuple a _, ⟨_, Heap.get?_push_size _ rfl, rfl, rfl⟩, fun b hb => ?_, q⟩
  obtain rfl : b = s.heap.objs.size := by simpa using hb
  exact I.fpOk (Nat.le_refl _) (I.hok.fresh (Nat.le_refl _))
variable {K : PySem.W.Frag} {xs : List D}
theorem lt_get {n : Nat} {ds : List D} (h : n < ds.length) : ∃ d, ds[n]? = some d := ⟨_, List.getElem?_eq_getElem h⟩
theorem jr_lst {p : Nat} : JR K H (Itl K p) xs (fun μ => lstAt μ p = some xs) where
  stop := fun i μ H1 t g sr hl => by
    obtain ⟨us, h1, r⟩ := sr.lst g
    exact ⟨us, .of h1, by rw [← r.len]; exact hl⟩
  go := fun i μ H1 t g sr hl => by
    obtain ⟨us, h1, r⟩ := sr.lst g
    obtain ⟨d, ed⟩ := lt_get hl
    obtain ⟨v, ev, _⟩ := r.get ed
    exact ⟨us, v, .of h1, ev⟩
  yld := fun i μ H1 v H' t g sr hl y => by
    obtain ⟨us, h1, r⟩ := sr.lst g
    obtain ⟨d, ed⟩ := lt_get hl
    obtain ⟨u, eu, ru⟩ := r.get ed
    obtain ⟨rfl, hy⟩ := y
    have := hy us (.of h1)
    rw [eu] at this; cases this
    exact ⟨.refl _, sr, d, ed, ru⟩
theorem jr_rol (f : FzL K H a vs) (r : RepL K H xs vs) : JR K H (Itl K a) xs (fun _ => True) where
  stop := fun i μ H1 t _ sr hl => ⟨vs, (f.tp t).seq, by rw [← r.len]; exact hl⟩
  go := fun i μ H1 t _ sr hl => by
    obtain ⟨d, ed⟩ := lt_get hl
    obtain ⟨v, ev, _⟩ := r.get ed
    exact ⟨vs, v, (f.tp t).seq, ev⟩
  yld := fun i μ H1 v H' t _ sr hl y => by
    obtain ⟨d, ed⟩ := lt_get hl
    obtain ⟨u, eu, ru⟩ := r.get ed
    obtain ⟨rfl, hy⟩ := y
    have := hy vs (f.tp t).seq
    rw [eu] at this; cases this
    exact ⟨.refl _, sr, d, ed, ru.tp t⟩
theorem jr_tup (f : SqT K H a vs) (r : RepL K H xs vs) : JR K H (Itt K a) xs (fun _ => True) where
  stop := fun i μ H1 t _ sr hl => ⟨vs, PD.SqT.tp t f, by rw [← r.len]; exact hl⟩
  go := fun i μ H1 t _ sr hl => by
    obtain ⟨d, ed⟩ := lt_get hl
    obtain ⟨v, ev, _⟩ := r.get ed
    exact ⟨vs, v, PD.SqT.tp t f, ev⟩
  yld := fun i μ H1 v H' t _ sr hl y => by
    obtain ⟨d, ed⟩ := lt_get hl
    obtain ⟨u, eu, ru⟩ := r.get ed
    obtain ⟨rfl, hy⟩ := y
    have := hy vs (PD.SqT.tp t f)
    rw [eu] at this; cases this
    exact ⟨.refl _, sr, d, ed, ru.tp t⟩
/-- what wSeq asks of a value -/
def seqR (R : List D → (Sto → Prop) → Sto → Prop) : QE := fun x μ1 => match x with
  | .tup xs => R xs (fun _ => True) μ1
  | .rol xs => R xs (fun _ => True) μ1
  | .loc p => opt (lstAt μ1 p) fun xs => R xs (fun μ' => lstAt μ' p = some xs) μ1
  | _ => False
theorem wSeq_eq (t : DE) : wSeq t = fun ρ μ R E => t ρ μ (seqR R) E := by
  funext ρ μ R E
  rfl
theorem seqR_mono {R R' : List D → (Sto → Prop) → Sto → Prop} (h : ∀ xs G μ, R xs G μ → R' xs G μ) {x : D} {μ : Sto} (q : seqR R x μ) : seqR R' x μ := by
  cases x with
  | tup xs => exact h _ _ _ q
  | rol xs => exact h _ _ _ q
  | loc p => exact opt_mono (fun xs z => h _ _ _ z) q
  | _ => exact q
theorem di_seq (h : PDE X W e te) : PDI X W tg e (wSeq te) where
  mono := fun ρ μ R R' E E' hr hx q => by
    rw [wSeq_eq] at q ⊢
    exact h.mono ρ μ _ _ _ _ (fun _ _ z => seqR_mono hr z) hx q
  run := ⟨fun pins s σ H R I ⟨ρ, μ, he, hs, q⟩ => by
    rw [wSeq_eq] at q
    refine thn (h.run.run pins s σ H (fun v H1 => ∃ x μ1, Tp H H1 ∧ StR X.K H1 μ1 ∧ Rep X.K H1 x v ∧ seqR (fun xs G μ' => ∀ J H', Tp H H' → StR X.K H' μ' → JR X.K H' J xs G → R J H') x μ1) I
      ⟨ρ, μ, he, hs, h.mono ρ μ _ _ _ _ (fun x μ1 z v H1 t1 s1 r1 => ⟨x, μ1, t1, s1, r1, z⟩) (fun _ _ z => z) q⟩) fun u s1 ⟨v, H1, I1, rv, x, μ1, t1, s1', r1, z⟩ => ?_
    cases x with
    | tup xs =>
      obtain ⟨a, us, rfl, sq, rr⟩ := rep_tup r1
      cases rv
      exact it_tup I1 sq.seq (z _ H1 t1 s1' (jr_tup sq.seq rr))
    | rol xs =>
      obtain ⟨a, us, rfl, sq, rr⟩ := rep_rol r1
      cases rv
      exact it_list I1 sq.seq (z _ H1 t1 s1' (jr_rol sq rr))
    | loc p =>
      obtain rfl := rep_loc r1
      cases rv
      obtain ⟨xs, e, z⟩ := opt_ex z
      obtain ⟨us, h1, rr⟩ := s1'.lst e
      exact it_list I1 (.of h1) (z _ H1 t1 s1' jr_lst)
    | _ => exact False.elim z⟩

/-! ### ranges -/
theorem rangeL_get {lo : Int} {n i : Nat} (h : i < n) : (rangeL lo n)[i]? = some (.int (lo + i)) := by
  unfold rangeL
  rw [List.getElem?_map, List.getElem?_range h]; rfl
theorem rangeL_len {lo : Int} {n : Nat} : (rangeL lo n).length = n := by
  unfold rangeL
  rw [List.length_map, List.length_range]
theorem jr_rng {lo : Int} {n : Nat} : JR K H (Itr lo n) (rangeL lo n) (fun _ => True) where
  stop := fun i μ H1 t _ sr hl => by rw [rangeL_len] at hl; exact hl
  go := fun i μ H1 t _ sr hl => by rw [rangeL_len] at hl; exact hl
  yld := fun i μ H1 v H' t _ sr hl y => by
    rw [rangeL_len] at hl
    obtain ⟨rfl, rfl⟩ := y
    exact ⟨.refl _, sr, _, rangeL_get hl, mk_int⟩
def rng1R (R : List D → (Sto → Prop) → Sto → Prop) : QE := fun x μ1 => match x with
  | .int j => (-(2 ^ 62) ≤ j ∧ j < 2 ^ 62) ∧ R (rangeL 0 j.toNat) (fun _ => True) μ1
  | _ => False
theorem wRng1_eq (t : DE) : wRng1 t = fun ρ μ R E => t ρ μ (rng1R R) E := rfl
theorem di_rng1 {p pos : Pos} (hg : Gl X "range") (hm : X.mg "range" = none) (h : PDE X W e te) (hs1 : starEach [e] X.env = [(false, eval e X.env)] := by rfl) (hs2 : starEach [e] X.env = (false, eval e X.env) :: starEach [] X.env := by rfl) :
    PDI X W tg (.Call (.Name "range" p) [e] [] pos) (wRng1 te) where
  mono := fun ρ μ R R' E E' hr hx q => by
    rw [wRng1_eq] at q ⊢
    exact h.mono ρ μ _ _ _ _ (fun x μ1 z => by cases x <;> first | exact ⟨z.1, hr _ _ _ z.2⟩ | exact z) hx q
  run := ⟨fun pins s σ H R I ⟨ρ, μ, he, hs, q⟩ => by
    rw [wRng1_eq] at q
    refine (pi_range1 hg hm (pa_cons h.run pa_nil hs2) hs1).run pins s σ H R I ⟨ρ, μ, he, hs, h.mono ρ μ _ _ _ _ (fun x μ1 z v H1 t1 s1 r1 => ?_) (fun _ _ z => z) q⟩
    cases x with
    | int j =>
      obtain rfl := rep_int r1
      exact ⟨j, rfl, z.1.1, z.1.2, z.2 _ H1 t1 s1 jr_rng⟩
    | _ => exact False.elim z⟩
def rng2R (R : List D → (Sto → Prop) → Sto → Prop) (x : D) : QE := fun y μ2 => match x, y with
  | .int i, .int j => (-(2 ^ 62) ≤ i ∧ i < 2 ^ 62 ∧ -(2 ^ 62) ≤ j ∧ j < 2 ^ 62) ∧ R (rangeL i (j - i).toNat) (fun _ => True) μ2
  | _, _ => False
theorem wRng2_eq (t u : DE) : wRng2 t u = fun ρ μ R E => t ρ μ (fun x μ1 => u ρ μ1 (rng2R R x) E) E := rfl
theorem di_rng2 {e2 : Expr} {te2 : DE} {p pos : Pos} (hg : Gl X "range") (hm : X.mg "range" = none) (h : PDE X W e te) (h2 : PDE X W e2 te2)
    (hs1 : starEach [e, e2] X.env = [(false, eval e X.env), (false, eval e2 X.env)] := by rfl) (hs2 : starEach [e2] X.env = [(false, eval e2 X.env)] := by rfl)
    (hs3 : starEach [e, e2] X.env = (false, eval e X.env) :: starEach [e2] X.env := by rfl) (hs4 : starEach [e2] X.env = (false, eval e2 X.env) :: starEach [] X.env := by rfl) :
    PDI X W tg (.Call (.Name "range" p) [e, e2] [] pos) (wRng2 te te2) where
  mono := fun ρ μ R R' E E' hr hx q => by
    rw [wRng2_eq] at q ⊢
    exact h.mono ρ μ _ _ _ _ (fun x μ1 z => h2.mono ρ μ1 _ _ _ _ (fun y μ2 z2 => by cases x <;> first | exact z2.elim | (cases y <;> first | exact ⟨z2.1, hr _ _ _ z2.2⟩ | exact z2.elim)) hx z) hx q
  run := ⟨fun pins s σ H R I ⟨ρ, μ, he, hs, q⟩ => by
    rw [wRng2_eq] at q
    refine (pi_range2 hg hm (pa_cons h.run (pa_cons h2.run pa_nil hs4) hs3) hs1 hs2).run pins s σ H R I ⟨ρ, μ, he, hs, h.mono ρ μ _ _ _ _ (fun x μ1 z v H1 t1 s1 r1 =>
      ⟨ρ, μ1, he.tp t1, s1, h2.mono ρ μ1 _ _ _ _ (fun y μ2 z2 w H2 t2 s2 r2 => ?_) (fun _ _ k => XL.later t1 k) z⟩) (fun _ _ z => z) q⟩
    cases x <;> first | exact z2.elim | skip
    cases y <;> first | exact z2.elim | skip
    rename_i i j
    obtain rfl := rep_int r1
    obtain rfl := rep_int r2
    exact ⟨i, j, rfl, z2.1, z2.2 _ H2 (t1.trans t2) s2 jr_rng⟩⟩
end
end PD
set_option Elab.async false
set_option linter.all false
set_option maxRecDepth 100000
set_option maxHeartbeats 4000000
namespace PD
open PySem PySem.Spec PyProof.Rows L2

/-! ### enumerate of one thing -/
theorem enum1_newB {v : Value} {o : Obj} {Hh : Heap → Prop} (B : Begins v o Hh) :
    Meets (Builtin.«enumerate.__new__» ⟨[.type "enumerate", v], []⟩) (fun _ R s => Hh s.heap ∧
      R (.ok (.ret (.ref (s.heap.push o).objs.size)))
        { s with heap := (s.heap.push o).push { cls := .type "enumerate", data := .fields #[.none, .bool false, .ref s.heap.objs.size, rawInt 0, .none, .none] } }) :=
  .of_wp fun prog w A R s h => by
    obtain ⟨hp, g, d, tk, os⟩ := s
    obtain ⟨hB, h⟩ := h
    have hsub := sub_enumerate
    have it1 : ∀ {A' : Around} {E : Value → Shared → Prop} {Q : Value → Shared → Prop}, Q (.ref hp.objs.size) ⟨hp.push o, g, d, tk, os⟩ → wpAny (model prog w) A' (pyIter v) Q E ⟨hp, g, d, tk, os⟩ :=
      fun q => B.iter prog w _ _ ⟨hp, g, d, tk, os⟩ _ (B.keeps _ _ hB fun _ _ e => e) q
    wp_walk
    refine wpAny_stack_any fun st => wpAny_pure ?_
    split
    · rename_i c _ _ _ _ _
      cases (c == Value.type "enumerate")
      · wp_walk using it1
        exact ⟨_, rfl, h⟩
      · wp_walk using it1
        exact ⟨_, rfl, h⟩
    · wp_walk using it1
      exact ⟨_, rfl, h⟩
section
variable {prog : Program} {w : World} {A : Around} {E : Value → Shared → Prop} {s : Shared}
theorem enum1_begins {v : Value} {o : Obj} {Hh : Heap → Prop} {Q : Value → Shared → Prop} (B : Begins v o Hh) (h1 : Hh s.heap)
    (h : ∀ h', IsEnum h' (s.heap.objs.size + 1) s.heap.objs.size 0 .none → h'.get? s.heap.objs.size = some o → h'.objs.size = s.heap.objs.size + 2 →
      (∀ b u, s.heap.get? b = some u → h'.get? b = some u) → Q (.ref (s.heap.objs.size + 1)) { s with heap := h' }) :
    wpAny (model prog w) A (call (.type "enumerate") [v]) Q E s := by
  refine callType_new F.called_enumerate (by decide) (F.typeCall_enumerate_1 _) (F.newCall_enumerate_1 _) (fun obj => F.args_object_init_2 obj _) F.entry_enumerate_new (enum1_newB B) ⟨h1, ?_⟩
  have zo : (s.heap.push o).objs.size = s.heap.objs.size + 1 := Heap.size_push ..
  show _ ∧ _
  rw [zo]
  have he : IsEnum ((s.heap.push o).push { cls := .type "enumerate", data := .fields #[.none, .bool false, .ref s.heap.objs.size, rawInt 0, .none, .none] }) (s.heap.objs.size + 1) s.heap.objs.size 0 .none := by
    have q := Heap.get?_push_size (s.heap.push o) (o := { cls := .type "enumerate", data := .fields #[.none, .bool false, .ref s.heap.objs.size, rawInt 0, .none, .none] }) rfl
    rw [zo] at q
    exact q
  exact ⟨⟨_, he, rfl⟩, h _ he (Heap.get?_push_of_some _ (Heap.get?_push_size _ B.free)) (by rw [Heap.size_push, zo]) fun b u x => Heap.get?_push_of_some _ (Heap.get?_push_of_some _ x)⟩
end
/-- the tuple at a, each item in a new pair with its place -/
def IteT (K : PySem.W.Frag) (a : Addr) : It :=
  ⟨fun i H => ∃ (xs : List V) (x : V), SqT K H a xs ∧ xs[i]? = some x, fun i H v H' => ∃ T x, v = .ref T ∧ H T = none ∧ H' = upd H T (.tup [.int (i : Nat), x]) ∧ ∀ xs, SqT K H a xs → xs[i]? = some x, fun i H => ∃ xs : List V, SqT K H a xs ∧ xs.length ≤ i⟩
theorem turn_enumT {P : Program} {w : World} {K : PySem.W.Frag} {elts : List Expr} {kk : Nat} {tpos : Pos} (a e it : Addr) :
    Turn P w K (.Tuple elts kk tpos) (IteT K a) [e, it] e (fun i h => (∃ old, IsEnum h e it ((i : Nat) : Int) old) ∧ h.IsTupleIter it a i ∧ e ≠ it) where
  mem := List.mem_cons_self ..
  obj := fun i h st b hb => by
    obtain ⟨⟨old, he⟩, ⟨o, ho, hc, hd⟩, _⟩ := st
    have e' : b = e ∨ b = it := by simpa using hb
    rcases e' with rfl | rfl
    · exact ⟨_, he, fun v q => nomatch q⟩
    · exact ⟨o, ho, fun v q => by rw [hd] at q; cases q⟩
  keep := fun i h h' st k => let ⟨⟨old, he⟩, hi, hne⟩ := st; ⟨⟨old, k e (List.mem_cons_self ..) _ he⟩, hi.at fun o q => k it (List.mem_cons_of_mem _ (List.mem_cons_self ..)) o q, hne⟩
  item := by
    intro X hP hw hK hc i pins s σ H E I hf st hg
    subst hP hw hK
    obtain ⟨⟨old, he⟩, hit, hne⟩ := st
    obtain ⟨xs, x, hq, hx⟩ := hg
    obtain ⟨its, rv, pt, hz⟩ := I.tuple hq
    obtain ⟨u, hu, ru⟩ := rv.get hx
    have hel : e < s.heap.objs.size := Heap.lt_size he
    have hil : it < s.heap.objs.size := by obtain ⟨_, q, _⟩ := hit; exact Heap.lt_size q
    have hae : e ≠ a := fun q => by
      obtain ⟨o, ho, hcl, _⟩ := id pt
      rw [← q] at ho
      have he' : s.heap.get? e = some _ := he
      rw [ho] at he'; cases he'
      exact absurd (Value.type.inj hcl) (by decide)
    have hai : a ≠ it := fun q => by
      obtain ⟨o, ho, hcl, _⟩ := id pt
      obtain ⟨o2, ho2, hc2, _⟩ := id hit
      rw [q, ho2] at ho; cases ho
      rw [hc2] at hcl
      exact absurd (Value.type.inj hcl) (by decide)
    have D : Draws X.prog X.w X.A.in1 it [it, a] its.toArray.size (fun i v => its.toArray[i]? = some v) (fun i h => h.IsTupleIter it a i ∧ h.IsTuple a its.toArray) := Draws.tuple (A := X.A.in1) (show X.A.in1.handled = none from I.ok.hd hc) it a hai its.toArray
    have hlt : i < its.toArray.size := by
      rcases Nat.lt_or_ge i its.length with z | z
      · simpa using z
      · rw [List.getElem?_eq_none z] at hu; cases hu
    refine wpAny_pyNext_enum_itemD D he ⟨hit, pt⟩ hlt hne (by simp [hne, hae]) fun y h' tk hy ho hit' hT hsz hk => ?_
    have ey : y = u := by
      have hy' : its.toArray[i]? = some y := hy
      rw [List.getElem?_toArray, hu] at hy'
      exact (Option.some.inj hy').symm
    subst ey
    refine ⟨_, rfl, wpAny_letOwnedTupleGo_enum (s := { s with heap := h', toks := tk + 1 }) ho fun h'' he' sb => ?_⟩
    have hT2 : h''.get? s.heap.objs.size = some { cls := .type "tuple", data := .seq #[.int i tk, y] } := (sb.2 _ (Nat.ne_of_gt hel)).trans hT
    have new : ObjOk X.prog X.w (upd H s.heap.objs.size (.tup [.int (i : Nat), x])) h'' s.heap.objs.size (.tup [.int (i : Nat), x]) :=
      ⟨show 2 ≤ sizeLine by decide, [.int i tk, y], .cons ⟨_, rfl⟩ (.cons ru .nil), ⟨_, hT2, rfl, _, rfl⟩⟩
    have I1 : Inv X pins σ (upd H s.heap.objs.size (.tup [.int (i : Nat), x])) { s with heap := h'', toks := tk + 1 } :=
      I.turnedNew (ch := [e, it]) (fun b ob hb q => (sb.2 b (fun z => hb (by simp [z]))).trans (hk b ob (fun z => hb (by simp [z])) (fun z => hb (by simp [z])) q)) hf (Nat.le_refl _) new
    refine ⟨.ref s.heap.objs.size, _, I1, rfl, ⟨_, x, rfl, I.hok.fresh (Nat.le_refl _), rfl, fun ys hy2 => by rw [I.tuple_inj hy2 hq]; exact hx⟩, ⟨⟨y, ?_⟩, hit'.1.at fun o q => (sb.2 it (Ne.symm hne)).trans q, hne⟩, fun b hb => ?_⟩
    · have e1 : ((i + 1 : Nat) : Int) = (i : Int) + 1 := by omega
      rw [e1]
      exact he'
    · have hb' : b < s.heap.objs.size := by
        have e' : b = e ∨ b = it := by simpa using hb
        rcases e' with rfl | rfl
        · exact hel
        · exact hil
      rw [upd_ne (Nat.ne_of_lt hb')]
      exact (hf b hb).1
  done := by
    intro X hP hw hK hc i pins s σ H E I hf st hg
    subst hP hw hK
    obtain ⟨⟨old, he⟩, hit, hne⟩ := st
    obtain ⟨xs, hq, hx⟩ := hg
    obtain ⟨its, rv, pt, hz⟩ := I.tuple hq
    obtain ⟨f0, f1, f2, f3, f4, f5⟩ := hf it (List.mem_cons_of_mem _ (List.mem_cons_self ..))
    have hl := rv.length
    have hai : a ≠ it := fun q => by
      obtain ⟨o, ho, hcl, _⟩ := id pt
      obtain ⟨o2, ho2, hc2, _⟩ := id hit
      rw [q, ho2] at ho; cases ho
      rw [hc2] at hcl
      exact absurd (Value.type.inj hcl) (by decide)
    -- a walk that is past its end: only the end's place matters
    have D : Draws X.prog X.w X.A.in1 it [it, a] i (fun j v => j < i ∧ False) (fun j h => h.IsTupleIter it a i ∧ h.IsTuple a its.toArray ∧ j = i) := {
      live := fun _ _ q => let ⟨o, ho, _⟩ := q.1; ⟨o, ho⟩
      frame := fun _ _ _ q hk => ⟨q.1.at fun o z => hk it (by simp) o z, q.2.1.at fun o z => hk a (by simp) o z, q.2.2⟩
      item := fun j s Q E hj q _ => absurd q.2.2 (Nat.ne_of_lt hj)
      done := fun s Q E q hE => wpAny_nextOf_tuple_end (show X.A.in1.handled = none from I.ok.hd hc) q.1 q.2.1 (by simp; omega) hE }
    exact wpAny_pyNext_enum_endD D he ⟨hit, pt, rfl⟩ fun h' eb => ⟨rfl, I.turned (t' := s.toks) (fun b o hb q => eb b o hb q) f0 f1 f3 f4 f5⟩
  self := fun A i s Q E st h => let ⟨⟨_, he⟩, _⟩ := st; wpAny_pyIter_enum he h

section
variable {K : PySem.W.Frag} {H : Hp} {a : Addr} {vs : List V} {xs : List D}
theorem enumL_len : ∀ (xs : List D) (k : Nat), (enumL xs k).length = xs.length
  | [], _ => rfl
  | x :: r, k => congrArg Nat.succ (enumL_len r (k + 1))
theorem enumL_get : ∀ {xs : List D} {k i : Nat} {d : D}, xs[i]? = some d → (enumL xs k)[i]? = some (.wtup [.int ((k + i : Nat) : Int), d])
  | [], _, _, _, h => by simp at h
  | x :: r, k, 0, d, h => by
    simp at h
    subst h
    rfl
  | x :: r, k, i + 1, d, h => by
    have q := enumL_get (k := k + 1) (i := i) (xs := r) (d := d) (by simpa using h)
    have e : k + 1 + i = k + (i + 1) := by omega
    rw [e] at q
    simpa [enumL] using q
theorem enum_yld {Q : List V → Prop} {i : Nat} {H1 H' : Hp} {μ : Sto} {v : V} {d : D} {u : V} (sr : StR K H1 μ) (ed : xs[i]? = some d) (ru : Rep K H1 d u) (y : ∃ T x, v = .ref T ∧ H1 T = none ∧ H' = upd H1 T (.tup [.int (i : Nat), x]) ∧ x = u) :
    Tp H1 H' ∧ StR K H' μ ∧ ∃ d, (enumL xs 0)[i]? = some d ∧ Rep K H' d v := by
  obtain ⟨T, x, rfl, n, rfl, rfl⟩ := y
  refine ⟨.new n, sr.new n, _, enumL_get ed, ?_⟩
  rw [Nat.zero_add]
  exact mk_wtup (SqT.of upd_same) (mk_cons mk_int (mk_cons (ru.tp (.new n)) mk_nil))
theorem jr_enumL {p : Nat} : JR K H (Ite K p) (enumL xs 0) (fun μ => lstAt μ p = some xs) where
  stop := fun i μ H1 t g sr hl => by
    rw [enumL_len] at hl
    obtain ⟨us, h1, r⟩ := sr.lst g
    exact ⟨us, .of h1, by rw [← r.len]; exact hl⟩
  go := fun i μ H1 t g sr hl => by
    rw [enumL_len] at hl
    obtain ⟨us, h1, r⟩ := sr.lst g
    obtain ⟨d, ed⟩ := lt_get hl
    obtain ⟨v, ev, _⟩ := r.get ed
    exact ⟨us, v, .of h1, ev⟩
  yld := fun i μ H1 v H' t g sr hl y => by
    rw [enumL_len] at hl
    obtain ⟨us, h1, r⟩ := sr.lst g
    obtain ⟨d, ed⟩ := lt_get hl
    obtain ⟨u, eu, ru⟩ := r.get ed
    obtain ⟨T, x, ev, n, eh, hy⟩ := y
    have q := hy us (.of h1)
    rw [eu] at q; cases q
    exact enum_yld (Q := fun _ => True) sr ed ru ⟨T, u, ev, n, eh, rfl⟩
theorem jr_enumR (f : FzL K H a vs) (r : RepL K H xs vs) : JR K H (Ite K a) (enumL xs 0) (fun _ => True) where
  stop := fun i μ H1 t _ sr hl => by
    rw [enumL_len] at hl
    exact ⟨vs, (f.tp t).seq, by rw [← r.len]; exact hl⟩
  go := fun i μ H1 t _ sr hl => by
    rw [enumL_len] at hl
    obtain ⟨d, ed⟩ := lt_get hl
    obtain ⟨v, ev, _⟩ := r.get ed
    exact ⟨vs, v, (f.tp t).seq, ev⟩
  yld := fun i μ H1 v H' t _ sr hl y => by
    rw [enumL_len] at hl
    obtain ⟨d, ed⟩ := lt_get hl
    obtain ⟨u, eu, ru⟩ := r.get ed
    obtain ⟨T, x, ev, n, eh, hy⟩ := y
    have q := hy vs (f.tp t).seq
    rw [eu] at q; cases q
    exact enum_yld (Q := fun _ => True) sr ed (ru.tp t) ⟨T, u, ev, n, eh, rfl⟩
theorem jr_enumT (f : SqT K H a vs) (r : RepL K H xs vs) : JR K H (IteT K a) (enumL xs 0) (fun _ => True) where
  stop := fun i μ H1 t _ sr hl => by
    rw [enumL_len] at hl
    exact ⟨vs, PD.SqT.tp t f, by rw [← r.len]; exact hl⟩
  go := fun i μ H1 t _ sr hl => by
    rw [enumL_len] at hl
    obtain ⟨d, ed⟩ := lt_get hl
    obtain ⟨v, ev, _⟩ := r.get ed
    exact ⟨vs, v, PD.SqT.tp t f, ev⟩
  yld := fun i μ H1 v H' t _ sr hl y => by
    rw [enumL_len] at hl
    obtain ⟨d, ed⟩ := lt_get hl
    obtain ⟨u, eu, ru⟩ := r.get ed
    obtain ⟨T, x, ev, n, eh, hy⟩ := y
    have q := hy vs (PD.SqT.tp t f)
    rw [eu] at q; cases q
    exact enum_yld (Q := fun _ => True) sr ed (ru.tp t) ⟨T, u, ev, n, eh, rfl⟩
end
section
variable {X : Cx} {W : WX} {e : Expr} {te : DE} {pins : List (Addr × Obj)} {σ : L2.St} {H : Hp} {s : Shared} {R : It → Hp → Prop} {a : Addr} {vs : List V}
theorem it_enumL {elts : List Expr} {kk : Nat} {tpos : Pos} (I : Inv X pins σ H s) (hq : SqL X.K H a vs) (q : R (Ite X.K a) H) :
    wpAny (model X.prog X.w) X.A (call (.type "enumerate") [.ref a]) (fun u s2 => wpAny (model X.prog X.w) X.A (pyIter u) (PIE X pins σ (.Tuple elts kk tpos) R) X.xe s2) X.xe s := by
  obtain ⟨its, rv, pl, hz⟩ := I.list hq
  refine call_enumerate_list pl.isList fun h' he hit hsz hk => wpAny_pyIter_enum he ?_
  have I2 : Inv X pins σ H { s with heap := h' } := I.kept (t' := s.toks) hk
  refine ⟨s.heap.objs.size + 1, [s.heap.objs.size + 1, s.heap.objs.size], _, _, H, rfl, I2, turn_enum a (s.heap.objs.size + 1) s.heap.objs.size, ⟨⟨.none, he⟩, hit, Nat.succ_ne_self _⟩, fun b hb => ?_, q⟩
  have hle : s.heap.objs.size ≤ b := by
    have e' : b = s.heap.objs.size + 1 ∨ b = s.heap.objs.size := by simpa using hb
    rcases e' with z | z <;> (rw [z]; omega)
  exact I.fpOk hle (I.hok.fresh hle)
theorem it_enumT {elts : List Expr} {kk : Nat} {tpos : Pos} (I : Inv X pins σ H s) (hq : SqT X.K H a vs) (q : R (IteT X.K a) H) :
    wpAny (model X.prog X.w) X.A (call (.type "enumerate") [.ref a]) (fun u s2 => wpAny (model X.prog X.w) X.A (pyIter u) (PIE X pins σ (.Tuple elts kk tpos) R) X.xe s2) X.xe s := by
  obtain ⟨its, rv, pt, hz⟩ := I.tuple hq
  refine enum1_begins (begins_tuple a its.toArray) pt fun h' he hit hsz hk => wpAny_pyIter_enum he ?_
  have I2 : Inv X pins σ H { s with heap := h' } := I.kept (t' := s.toks) hk
  refine ⟨s.heap.objs.size + 1, [s.heap.objs.size + 1, s.heap.objs.size], _, _, H, rfl, I2, turn_enumT a (s.heap.objs.size + 1) s.heap.objs.size, ⟨⟨.none, he⟩, ⟨_, hit, rfl, rfl⟩, Nat.succ_ne_self _⟩, fun b hb => ?_, q⟩
  have hle : s.heap.objs.size ≤ b := by
    have e' : b = s.heap.objs.size + 1 ∨ b = s.heap.objs.size := by simpa using hb
    rcases e' with z | z <;> (rw [z]; omega)
  exact I.fpOk hle (I.hok.fresh hle)
theorem wEnum_eq (t : DE) : wEnum t = fun ρ μ R E => t ρ μ (seqR (fun xs G μ1 => R (enumL xs 0) G μ1)) E := by
  funext ρ μ R E
  unfold wEnum
  rw [wSeq_eq]
theorem di_enum {elts : List Expr} {kk : Nat} {tpos p pos : Pos} (hg : Gl X "enumerate") (hm : X.mg "enumerate" = none) (h : PDE X W e te) (hs1 : starEach [e] X.env = [(false, eval e X.env)] := by rfl) (hs2 : starEach [e] X.env = (false, eval e X.env) :: starEach [] X.env := by rfl) :
    PDI X W (.Tuple elts kk tpos) (.Call (.Name "enumerate" p) [e] [] pos) (wEnum te) where
  mono := fun ρ μ R R' E E' hr hx q => by
    rw [wEnum_eq] at q ⊢
    exact h.mono ρ μ _ _ _ _ (fun _ _ z => seqR_mono (fun xs G μ k => hr _ _ _ k) z) hx q
  run := ⟨fun pins s σ H R I ⟨ρ, μ, he, hs, q⟩ => by
    rw [wEnum_eq] at q
    refine Call_ (ld_blt I hg hm boot_enumerate (PyProof.Rows.callWith_type1 (thn ((pa_cons h.run pa_nil hs2).run pos pins s σ H (fun us H1 => ∃ v x μ1, us = [v] ∧ Tp H H1 ∧ StR X.K H1 μ1 ∧ Rep X.K H1 x v ∧ seqR (fun xs G μ' => ∀ J H', Tp H H' → StR X.K H' μ' → JR X.K H' J (enumL xs 0) G → R J H') x μ1) I
      ⟨ρ, μ, he, hs, h.mono ρ μ _ _ _ _ (fun x μ1 z v H1 t1 s1 r1 => ⟨v, x, μ1, rfl, t1, s1, r1, z⟩) (fun _ _ z => z) q⟩) fun us s1 ⟨vs, H1, I1, rv, v, x, μ1, ev, t1, s1', r1, z⟩ => ?_) hs1 rfl))
    subst ev
    cases rv with
    | cons rv rr =>
      cases rr
      cases x with
      | tup xs =>
        obtain ⟨a, us, rfl, sq, rr⟩ := rep_tup r1
        cases rv
        exact it_enumT I1 sq.seq (z _ H1 t1 s1' (jr_enumT sq.seq rr))
      | rol xs =>
        obtain ⟨a, us, rfl, sq, rr⟩ := rep_rol r1
        cases rv
        exact it_enumL I1 sq.seq (z _ H1 t1 s1' (jr_enumR sq rr))
      | loc p =>
        obtain rfl := rep_loc r1
        cases rv
        obtain ⟨xs, e, z⟩ := opt_ex z
        obtain ⟨us, h1, rr⟩ := s1'.lst e
        exact it_enumL I1 (.of h1) (z _ H1 t1 s1' jr_enumL)
      | _ => exact False.elim z⟩
end
end PD
set_option Elab.async false
set_option linter.all false
set_option maxRecDepth 100000
set_option maxHeartbeats 4000000
namespace PD
open PySem PySem.Spec PyProof.Rows L2

/-- no exception is let out of a comprehension's block -/
abbrev W0 : WX := fun _ _ _ _ => False
structure PDTs (X : Cx) (W : WX) (ifs : List Expr) (t : DT) : Prop where
  mono : ∀ ρ μ Q Q' E E', (∀ d μ', Q d μ' → Q' d μ') → (∀ x μ', E x μ' → E' x μ') → t ρ μ Q E → t ρ μ Q' E'
  run : PTs X ifs (lT X.K X.mg W t)
theorem dts_nil {X : Cx} {W : WX} : PDTs X W [] tYes := ⟨fun ρ μ Q Q' E E' hq _ h => hq _ _ h, ⟨fun pins s σ H Q I ⟨ρ, μ, he, hs, h⟩ => pts_nil.run pins s σ H Q I (h H (.refl _) hs)⟩⟩
theorem dts_one {X : Cx} {W : WX} {c : Expr} {t : DT} (h : PDT X W c t) : PDTs X W [c] t := ⟨h.mono, pts_one h.run⟩

theorem wipe_in {σ : L2.St} {i : Nat} : ∀ {vs : List Nat}, i ∈ vs → i < σ.length → (wipe σ vs)[i]? = some none
  | [], h, _ => nomatch h
  | v :: vs, h, hl => by
    unfold wipe
    by_cases e : v = i
    · subst e
      rw [List.getElem?_set_self (by rw [wipe_length]; exact hl)]
    · rw [List.getElem?_set_ne e]
      exact wipe_in (by rcases List.mem_cons.mp h with z | z; exact absurd z.symm e; exact z) hl
theorem wipe_same {σ τ : L2.St} {vs : List Nat} (hl : τ.length = σ.length) (h : ∀ i, i ∉ vs → τ[i]? = σ[i]?) : wipe τ vs = wipe σ vs := by
  refine List.ext_getElem? fun i => ?_
  by_cases hi : i ∈ vs
  · rcases Nat.lt_or_ge i σ.length with z | z
    · rw [wipe_in hi z, wipe_in hi (by rw [hl]; exact z)]
    · have h1 : (wipe τ vs)[i]? = none := List.getElem?_eq_none (by rw [wipe_length, hl]; exact z)
      have h2 : (wipe σ vs)[i]? = none := List.getElem?_eq_none (by rw [wipe_length]; exact z)
      rw [h1, h2]
  · rw [wipe_out hi, wipe_out hi, h i hi]
theorem en_wipe {K : PySem.W.Frag} {H : Hp} {ρ : Ev} {σ : L2.St} (h : EnR K H ρ σ) : ∀ vs : List Nat, EnR K H (wipeE ρ vs) (wipe σ vs)
  | [] => h
  | v :: vs => (en_wipe h vs).gone v
theorem gs_lnx {K : PySem.W.Frag} {H : Hp} {P : Ev → Sto → Prop} {μ : Sto} : ∀ {is : List Nat} {ds : List D} {vs : List V} {ρ : Ev} {σ : L2.St}, gNames is ds ρ μ P → RepL K H ds vs → EnR K H ρ σ →
    ∀ {Q : L2.St → Hp → Prop}, (∀ ρ' σ', P ρ' μ → EnR K H ρ' σ' → σ'.length = σ.length → (∀ j, j ∉ is → σ'[j]? = σ[j]?) → Q σ' H) → gsOf is vs σ H Q
  | [], [], _, _, _, h, r, he, _, hq => ⟨repl_nil r, hq _ _ h he rfl fun _ _ => rfl⟩
  | i :: is, d :: ds, _, _, σ, h, r, he, _, hq => by
    obtain ⟨v, w, ev, r1, r2⟩ := repl_cons r
    refine ⟨v, w, ev, gs_lnx (is := is) (ds := ds) h r2 (he.set i r1) fun ρ' σ' p e l k => hq ρ' σ' p e (by rw [l, List.length_set]) fun j hj => ?_⟩
    rw [k j fun z => hj (List.mem_cons_of_mem _ z), List.getElem?_set_ne fun z => hj (by rw [z]; exact List.mem_cons_self ..)]
  | [], _ :: _, _, _, _, h, _, _, _, _ => h.elim
  | _ :: _, [], _, _, _, h, _, _, _, _ => h.elim

section
variable {X : Cx} {W : WX} {elt tg iter : Expr} {ifs : List Expr} {scope : Scope} {own : List (Str × Nat)} {pos : Pos} {dw : DI} {dg : DG} {g : TG} {tt : DT} {te : DE}
theorem lcW_mono {G : Sto → Prop} {vs : List Nat} {p : Nat} {ρ0 : Ev} (hg : ∀ d ρ μ Q Q' E E', (∀ ρ' μ', Q ρ' μ' → Q' ρ' μ') → (∀ x μ', E x μ' → E' x μ') → dg d ρ μ Q E → dg d ρ μ Q' E')
    (ht : ∀ ρ μ Q Q' E E', (∀ d μ', Q d μ' → Q' d μ') → (∀ x μ', E x μ' → E' x μ') → tt ρ μ Q E → tt ρ μ Q' E') (he : ∀ ρ μ Q Q' E E', (∀ d μ', Q d μ' → Q' d μ') → (∀ x μ', E x μ' → E' x μ') → te ρ μ Q E → te ρ μ Q' E')
    {Q Q' : Sto → Prop} (hq : ∀ μ, Q μ → Q' μ) : ∀ (xs : List D) (μ : Sto), lcW G dg tt te ρ0 p Q xs μ → lcW G dg tt te ρ0 p Q' xs μ
  | [], μ, h => ⟨h.1, hq _ h.2⟩
  | x :: xs, μ, h => ⟨h.1, hg _ _ _ _ _ _ _ (fun ρ1 μ1 z => ht _ _ _ _ _ _ (fun b μ2 z2 => by
      cases b with
      | true =>
        rw [if_pos rfl] at z2 ⊢
        refine he _ _ _ _ _ _ (fun y μ3 z3 => ?_) (fun _ _ z => z) z2
        exact opt_mono (fun acc z4 => ⟨z4.1, lcW_mono (vs := vs) hg ht he hq xs _ z4.2⟩) z3
      | false =>
        rw [if_neg Bool.false_ne_true] at z2 ⊢
        exact lcW_mono (vs := vs) hg ht he hq xs _ z2) (fun _ _ z => z) z) (fun _ _ z => z) h.2⟩
theorem lc_lift (hi : PDI X W tg iter dw)
    (mg : ∀ d ρ μ Q Q' E E', (∀ ρ' μ', Q ρ' μ' → Q' ρ' μ') → (∀ x μ', E x μ' → E' x μ') → dg d ρ μ Q E → dg d ρ μ Q' E')
    (lg : ∀ {d : D} {ρ : Ev} {μ : Sto} {P : Ev → Sto → Prop} {v : V} {σ : L2.St} {H : Hp} {Q : L2.St → Hp → Prop}, dg d ρ μ P (fun _ _ => False) → Rep X.K H d v → EnR X.K H ρ σ →
      (∀ ρ' σ', P ρ' μ → EnR X.K H ρ' σ' → wipe σ' (own.map (·.2)) = wipe σ (own.map (·.2)) → Q σ' H) → g v σ H Q)
    (ht : ∀ (s : Shared) (H : Hp) (C : Addr) (cl : List (Str × Addr)) (fp : List Addr), PDTs (X.blk s H scope (compEnvC scope cl C X.env) fp) W0 ifs tt)
    (he : ∀ (s : Shared) (H : Hp) (C : Addr) (cl : List (Str × Addr)) (fp : List Addr), PDE (X.blk s H scope (compEnvC scope cl C X.env) fp) W0 elt te) :
    ∀ σ H Q, lE X.K X.mg W (dLc dw dg tt te (own.map (·.2))) σ H Q → tLc (lI X.K X.mg W dw) g (lT X.K X.mg W0 tt) (lE X.K X.mg W0 te) (own.map (·.2)) σ H Q := fun σ H Q ⟨ρ, μ, en, hs, h⟩ => by
    have mt := (ht X.s_0 X.H_0 0 [] []).mono
    have me := (he X.s_0 X.H_0 0 [] []).mono
    refine ⟨ρ, μ, en, hs, hi.mono ρ μ _ _ _ _ (fun xs G μ1 z J H1 t1 s1 jr L nL => ?_) (fun _ _ z => z) h⟩
    refine ⟨fun j m H' => ∃ μ', Tp H1 H' ∧ StR X.K H' μ' ∧ j + m = xs.length ∧ lcW G dg tt te (wipeE ρ (own.map (·.2))) L (QL X.K H Q (.loc L)) (xs.drop j) μ',
      ⟨xs.length, _, .new nL, s1.newL nL mk_nil, Nat.zero_add _, z L (s1.untold nL)⟩, ?_⟩
    rintro j m H' ⟨μ', t', s', hm, hw⟩
    cases m with
    | zero =>
      have hl : xs.length ≤ j := by omega
      rw [List.drop_eq_nil_of_le hl] at hw
      exact .inl ⟨jr.stop j μ' H' t' hw.1 s' hl, hw.2 _ H' (t1.trans t') s' mk_loc⟩
    | succ m =>
      have hl : j < xs.length := by omega
      rw [List.drop_eq_getElem_cons hl] at hw
      refine .inr ⟨jr.go j μ' H' t' hw.1 s' hl, fun H2 => ∃ μ', Tp H1 H2 ∧ StR X.K H2 μ' ∧ (j + 1) + m = xs.length ∧ lcW G dg tt te (wipeE ρ (own.map (·.2))) L (QL X.K H Q (.loc L)) (xs.drop (j + 1)) μ',
        fun H2 k => ⟨m, Nat.lt_succ_self _, k⟩, fun v H2 y => ?_⟩
      obtain ⟨t2, s2, d, ed, rd⟩ := jr.yld j μ' H' v H2 t' hw.1 s' hl y
      obtain rfl : d = xs[j] := by rw [List.getElem?_eq_getElem hl] at ed; exact (Option.some.inj ed).symm
      refine lg hw.2 rd (en_wipe (en.tp (t1.trans (t'.trans t2))) _) fun ρ3 σ3 z3 e3 ew => ⟨by rw [ew]; exact wipe_same (wipe_length _ _) fun i hi => wipe_out hi, ρ3, μ', e3, s2, ?_⟩
      refine mt _ _ _ _ _ _ (fun b μ2 z2 H3 t3 s3 => ?_) (fun _ _ k => k.elim) z3
      cases b with
      | false =>
        rw [if_neg Bool.false_ne_true] at z2 ⊢
        exact ⟨μ2, t'.trans (t2.trans t3), s3, by omega, z2⟩
      | true =>
        rw [if_pos rfl] at z2 ⊢
        refine ⟨ρ3, μ2, e3.tp t3, s3, me _ _ _ _ _ _ (fun y μ3 z3 yv H4 t4 s4 r4 => ?_) (fun _ _ k => k.elim) z2⟩
        obtain ⟨acc, e, z3⟩ := opt_ex z3
        obtain ⟨us, h4, rr⟩ := s4.lst e
        exact ⟨us, h4, by rw [← rr.len]; exact line_lt z3.1, _, (t'.trans (t2.trans (t3.trans t4))).trans (.lst h4), s4.setL h4 (rr.app (mk_cons r4 mk_nil)), by omega, z3.2⟩
theorem lc_mono (hi : PDI X W tg iter dw)
    (mg : ∀ d ρ μ Q Q' E E', (∀ ρ' μ', Q ρ' μ' → Q' ρ' μ') → (∀ x μ', E x μ' → E' x μ') → dg d ρ μ Q E → dg d ρ μ Q' E')
    (ht : ∀ (s : Shared) (H : Hp) (C : Addr) (cl : List (Str × Addr)) (fp : List Addr), PDTs (X.blk s H scope (compEnvC scope cl C X.env) fp) W0 ifs tt)
    (he : ∀ (s : Shared) (H : Hp) (C : Addr) (cl : List (Str × Addr)) (fp : List Addr), PDE (X.blk s H scope (compEnvC scope cl C X.env) fp) W0 elt te) :
    ∀ ρ μ Q Q' E E', (∀ d μ', Q d μ' → Q' d μ') → (∀ x μ', E x μ' → E' x μ') → dLc dw dg tt te (own.map (·.2)) ρ μ Q E → dLc dw dg tt te (own.map (·.2)) ρ μ Q' E' :=
  fun ρ μ Q Q' E E' hq hx h => hi.mono ρ μ _ _ _ _ (fun xs G μ1 z p np => lcW_mono (vs := own.map (·.2)) mg (ht X.s_0 X.H_0 0 [] []).mono (he X.s_0 X.H_0 0 [] []).mono (hq _) xs _ (z p np)) hx h
theorem de_lc (hc : X.calm = true) (hN : X.N.Nodup) (hi : PDI X W tg iter dw) (ok : BlkOk X.N X.env.scope scope own)
    (hg : ∀ (s : Shared) (H : Hp) (C : Addr) (cl : List (Str × Addr)) (fp : List Addr), PG (X.blk s H scope (compEnvC scope cl C X.env) fp) tg g)
    (mg : ∀ d ρ μ Q Q' E E', (∀ ρ' μ', Q ρ' μ' → Q' ρ' μ') → (∀ x μ', E x μ' → E' x μ') → dg d ρ μ Q E → dg d ρ μ Q' E')
    (lg : ∀ {d : D} {ρ : Ev} {μ : Sto} {P : Ev → Sto → Prop} {v : V} {σ : L2.St} {H : Hp} {Q : L2.St → Hp → Prop}, dg d ρ μ P (fun _ _ => False) → Rep X.K H d v → EnR X.K H ρ σ →
      (∀ ρ' σ', P ρ' μ → EnR X.K H ρ' σ' → wipe σ' (own.map (·.2)) = wipe σ (own.map (·.2)) → Q σ' H) → g v σ H Q)
    (ht : ∀ (s : Shared) (H : Hp) (C : Addr) (cl : List (Str × Addr)) (fp : List Addr), PDTs (X.blk s H scope (compEnvC scope cl C X.env) fp) W0 ifs tt)
    (he : ∀ (s : Shared) (H : Hp) (C : Addr) (cl : List (Str × Addr)) (fp : List Addr), PDE (X.blk s H scope (compEnvC scope cl C X.env) fp) W0 elt te)
    (hs : ∀ x, foldedSetIterable iter X.env x = pure x := by intro _; rfl) : PDE X W (.ListComp elt [⟨tg, iter, ifs, 0⟩] scope pos) (dLc dw dg tt te (own.map (·.2))) where
  mono := lc_mono hi mg ht he
  run := PE_imp (pe_lc (tt := lT X.K X.mg W0 tt) (te := lE X.K X.mg W0 te) hc hN hi.run ok hg (fun s H C cl fp => (ht s H C cl fp).run) (fun s H C cl fp => (he s H C cl fp).run) hs) (lc_lift hi mg lg ht he)
/-- y = [..], y a local of the def -/
theorem ds_setLc {i : Nat} {y : Str} {py spos : Pos} (hc : X.calm = true) (hN : X.N.Nodup) (hy : X.N[i]? = some y) (hyl : X.env.scope.names.lookup y = some .local)
    (hsw : swapsWith (.ListComp elt [⟨tg, iter, ifs, 0⟩] scope pos) (some (.Name y py)) spos.line X.env = pure true) (hi : PDI X W tg iter dw) (ok : BlkOk X.N X.env.scope scope own)
    (hg : ∀ (s : Shared) (H : Hp) (C : Addr) (cl : List (Str × Addr)) (fp : List Addr), PG (X.blk s H scope (compEnvC scope cl C X.env) fp) tg g)
    (mg : ∀ d ρ μ Q Q' E E', (∀ ρ' μ', Q ρ' μ' → Q' ρ' μ') → (∀ x μ', E x μ' → E' x μ') → dg d ρ μ Q E → dg d ρ μ Q' E')
    (lg : ∀ {d : D} {ρ : Ev} {μ : Sto} {P : Ev → Sto → Prop} {v : V} {σ : L2.St} {H : Hp} {Q : L2.St → Hp → Prop}, dg d ρ μ P (fun _ _ => False) → Rep X.K H d v → EnR X.K H ρ σ →
      (∀ ρ' σ', P ρ' μ → EnR X.K H ρ' σ' → wipe σ' (own.map (·.2)) = wipe σ (own.map (·.2)) → Q σ' H) → g v σ H Q)
    (ht : ∀ (s : Shared) (H : Hp) (C : Addr) (cl : List (Str × Addr)) (fp : List Addr), PDTs (X.blk s H scope (compEnvC scope cl C X.env) fp) W0 ifs tt)
    (he : ∀ (s : Shared) (H : Hp) (C : Addr) (cl : List (Str × Addr)) (fp : List Addr), PDE (X.blk s H scope (compEnvC scope cl C X.env) fp) W0 elt te)
    (hs : ∀ x, foldedSetIterable iter X.env x = pure x := by intro _; rfl) : PDS X W (.Assign [.Name y py] (.ListComp elt [⟨tg, iter, ifs, 0⟩] scope pos) spos) (sAsg (dLc dw dg tt te (own.map (·.2))) (gName i)) where
  mono := fun A B ρ μ l q => lc_mono hi mg ht he ρ μ _ _ _ _ (fun d μ1 z => l.nx _ _ z) (fun _ _ z => l.ex _ _ _ z) q
  run := PS_imp (ps_setLc (tt := lT X.K X.mg W0 tt) (te := lE X.K X.mg W0 te) hc hN hy hyl hsw hi.run ok hg (fun s H C cl fp => (ht s H C cl fp).run) (fun s H C cl fp => (he s H C cl fp).run) hs) fun D σ H ⟨ρ, μ, en, sr, q⟩ =>
    lc_lift hi mg lg ht he σ H _ ⟨ρ, μ, en, sr, lc_mono hi mg ht he ρ μ _ _ _ _ (fun d μ1 z v H1 t1 s1 r1 => z _ H1 t1 ((en.tp t1).set i r1) s1) (fun x μ1 z => ex_xl en z) q⟩
/-- the block's target is a name; names -/
theorem lg_name {i : Nat} {x : Str} {d : D} {ρ : Ev} {μ : Sto} {P : Ev → Sto → Prop} {v : V} {σ : L2.St} {H : Hp} {Q : L2.St → Hp → Prop} (h : gName i d ρ μ P (fun _ _ => False)) (r : Rep X.K H d v) (en : EnR X.K H ρ σ)
    (k : ∀ ρ' σ', P ρ' μ → EnR X.K H ρ' σ' → wipe σ' (([(x, i)] : List (Str × Nat)).map (·.2)) = wipe σ (([(x, i)] : List (Str × Nat)).map (·.2)) → Q σ' H) : L2.gName i v σ H Q :=
  k _ _ h (en.set i r) (wipe_same (List.length_set ..) fun j hj => List.getElem?_set_ne fun z => hj (by rw [z]; exact List.mem_cons_self ..))
theorem mg_tup {is : List Nat} : ∀ d ρ μ (Q Q' : Ev → Sto → Prop) E E', (∀ ρ' μ', Q ρ' μ' → Q' ρ' μ') → (∀ x μ', E x μ' → E' x μ') → gTup is d ρ μ Q E → gTup is d ρ μ Q' E' := fun d ρ μ Q Q' E E' hq _ h => by
  cases d <;> first | exact gNames_mono hq h | exact h
theorem lg_tup {K : PySem.W.Frag} {d : D} {ρ : Ev} {μ : Sto} {P : Ev → Sto → Prop} {v : V} {σ : L2.St} {H : Hp} {Q : L2.St → Hp → Prop} (h : gTup (own.map (·.2)) d ρ μ P (fun _ _ => False)) (r : Rep K H d v) (en : EnR K H ρ σ)
    (k : ∀ ρ' σ', P ρ' μ → EnR K H ρ' σ' → wipe σ' (own.map (·.2)) = wipe σ (own.map (·.2)) → Q σ' H) : L2.gTup K (own.map (·.2)).length (gsOf (own.map (·.2))) v σ H Q := by
  cases d with
  | tup ds =>
    obtain ⟨a, vs, e, q, r2⟩ := rep_tup r
    exact ⟨a, vs, e, q.seq, by rw [← r2.len]; exact (gNames_len h).symm, gs_lnx h r2 en fun ρ' σ' p e' l z => k ρ' σ' p e' (wipe_same l z)⟩
  | wtup ds =>
    obtain ⟨a, vs, e, q, r2⟩ := rep_wtup r
    exact ⟨a, vs, e, q, by rw [← r2.len]; exact (gNames_len h).symm, gs_lnx h r2 en fun ρ' σ' p e' l z => k ρ' σ' p e' (wipe_same l z)⟩
  | _ => exact False.elim h
/-- [e for x in ..] -/
theorem de_lc1 {i : Nat} {x : Str} {p : Pos} (hc : X.calm = true) (hN : X.N.Nodup) (hi : PDI X W (.Name x p) iter dw) (ok : BlkOk X.N X.env.scope scope [(x, i)])
    (hg : ∀ (s : Shared) (H : Hp) (C : Addr) (cl : List (Str × Addr)) (fp : List Addr), PG (X.blk s H scope (compEnvC scope cl C X.env) fp) (.Name x p) (L2.gName i))
    (ht : ∀ (s : Shared) (H : Hp) (C : Addr) (cl : List (Str × Addr)) (fp : List Addr), PDTs (X.blk s H scope (compEnvC scope cl C X.env) fp) W0 ifs tt)
    (he : ∀ (s : Shared) (H : Hp) (C : Addr) (cl : List (Str × Addr)) (fp : List Addr), PDE (X.blk s H scope (compEnvC scope cl C X.env) fp) W0 elt te)
    (hs : ∀ x, foldedSetIterable iter X.env x = pure x := by intro _; rfl) : PDE X W (.ListComp elt [⟨.Name x p, iter, ifs, 0⟩] scope pos) (dLc dw (gName i) tt te [i]) :=
  de_lc (own := [(x, i)]) hc hN hi ok hg (fun d ρ μ Q Q' E E' hq _ h => hq _ _ h) lg_name ht he hs
theorem ds_setLc1 {i j : Nat} {x y : Str} {p py spos : Pos} (hc : X.calm = true) (hN : X.N.Nodup) (hy : X.N[j]? = some y) (hyl : X.env.scope.names.lookup y = some .local)
    (hsw : swapsWith (.ListComp elt [⟨.Name x p, iter, ifs, 0⟩] scope pos) (some (.Name y py)) spos.line X.env = pure true) (hi : PDI X W (.Name x p) iter dw) (ok : BlkOk X.N X.env.scope scope [(x, i)])
    (hg : ∀ (s : Shared) (H : Hp) (C : Addr) (cl : List (Str × Addr)) (fp : List Addr), PG (X.blk s H scope (compEnvC scope cl C X.env) fp) (.Name x p) (L2.gName i))
    (ht : ∀ (s : Shared) (H : Hp) (C : Addr) (cl : List (Str × Addr)) (fp : List Addr), PDTs (X.blk s H scope (compEnvC scope cl C X.env) fp) W0 ifs tt)
    (he : ∀ (s : Shared) (H : Hp) (C : Addr) (cl : List (Str × Addr)) (fp : List Addr), PDE (X.blk s H scope (compEnvC scope cl C X.env) fp) W0 elt te)
    (hs : ∀ x, foldedSetIterable iter X.env x = pure x := by intro _; rfl) : PDS X W (.Assign [.Name y py] (.ListComp elt [⟨.Name x p, iter, ifs, 0⟩] scope pos) spos) (sAsg (dLc dw (gName i) tt te [i]) (gName j)) :=
  ds_setLc (own := [(x, i)]) hc hN hy hyl hsw hi ok hg (fun d ρ μ Q Q' E E' hq _ h => hq _ _ h) lg_name ht he hs
/-- [e for x, y in ..]; own: the names with their places -/
theorem de_lcT {es : List Expr} {k : Nat} {p : Pos} (own : List (Str × Nat)) (hc : X.calm = true) (hN : X.N.Nodup) (hi : PDI X W (.Tuple es k p) iter dw) (ok : BlkOk X.N X.env.scope scope own)
    (hg : ∀ (s : Shared) (H : Hp) (C : Addr) (cl : List (Str × Addr)) (fp : List Addr), PG (X.blk s H scope (compEnvC scope cl C X.env) fp) (.Tuple es k p) (L2.gTup X.K (own.map (·.2)).length (gsOf (own.map (·.2)))))
    (ht : ∀ (s : Shared) (H : Hp) (C : Addr) (cl : List (Str × Addr)) (fp : List Addr), PDTs (X.blk s H scope (compEnvC scope cl C X.env) fp) W0 ifs tt)
    (he : ∀ (s : Shared) (H : Hp) (C : Addr) (cl : List (Str × Addr)) (fp : List Addr), PDE (X.blk s H scope (compEnvC scope cl C X.env) fp) W0 elt te)
    (hs : ∀ x, foldedSetIterable iter X.env x = pure x := by intro _; rfl) : PDE X W (.ListComp elt [⟨.Tuple es k p, iter, ifs, 0⟩] scope pos) (dLc dw (gTup (own.map (·.2))) tt te (own.map (·.2))) :=
  de_lc hc hN hi ok hg mg_tup lg_tup ht he hs
theorem ds_setLcT {es : List Expr} {k j : Nat} {y : Str} {p py spos : Pos} (own : List (Str × Nat)) (hc : X.calm = true) (hN : X.N.Nodup) (hy : X.N[j]? = some y) (hyl : X.env.scope.names.lookup y = some .local)
    (hsw : swapsWith (.ListComp elt [⟨.Tuple es k p, iter, ifs, 0⟩] scope pos) (some (.Name y py)) spos.line X.env = pure true) (hi : PDI X W (.Tuple es k p) iter dw) (ok : BlkOk X.N X.env.scope scope own)
    (hg : ∀ (s : Shared) (H : Hp) (C : Addr) (cl : List (Str × Addr)) (fp : List Addr), PG (X.blk s H scope (compEnvC scope cl C X.env) fp) (.Tuple es k p) (L2.gTup X.K (own.map (·.2)).length (gsOf (own.map (·.2)))))
    (ht : ∀ (s : Shared) (H : Hp) (C : Addr) (cl : List (Str × Addr)) (fp : List Addr), PDTs (X.blk s H scope (compEnvC scope cl C X.env) fp) W0 ifs tt)
    (he : ∀ (s : Shared) (H : Hp) (C : Addr) (cl : List (Str × Addr)) (fp : List Addr), PDE (X.blk s H scope (compEnvC scope cl C X.env) fp) W0 elt te)
    (hs : ∀ x, foldedSetIterable iter X.env x = pure x := by intro _; rfl) : PDS X W (.Assign [.Name y py] (.ListComp elt [⟨.Tuple es k p, iter, ifs, 0⟩] scope pos) spos) (sAsg (dLc dw (gTup (own.map (·.2))) tt te (own.map (·.2))) (gName j)) :=
  ds_setLc hc hN hy hyl hsw hi ok hg mg_tup lg_tup ht he hs
end
end PD
set_option Elab.async false
set_option linter.all false
set_option maxRecDepth 100000
set_option maxHeartbeats 4000000
namespace PD
open PySem PySem.Spec PyProof.Rows L2

section
variable {K : PySem.W.Frag}
theorem ql_here {H : Hp} {Q : VK} {d : D} {μ : Sto} {v : V} (h : QL K H Q d μ) (s : StR K H μ) (r : Rep K H d v) : Q v H := h v H (.refl _) s r
theorem ql_newL {H : Hp} {Q : VK} {μ : Sto} {xs : List D} {vs : List V} (s : StR K H μ) (r : RepL K H xs vs) (h : ∀ p, μ p = none → QL K H Q (.loc p) (put μ p (.lst xs))) : ∀ p, H p = none → Q (.ref p) (upd H p (.lst vs)) := fun p n =>
  h p (s.untold n) _ _ (.new n) (s.newL n r) mk_loc
theorem ql_newT {H : Hp} {Q : VK} {μ : Sto} {xs : List D} {vs : List V} (s : StR K H μ) (r : RepL K H xs vs) (h : QL K H Q (.tup xs) μ) : ∀ (o : Obj) p, o.dict = none → H p = none → Q (.ref p) (upd H p (.frz o (.tup vs))) := fun o p d n =>
  h _ _ (.new n) (s.new n) (mk_tup (.inl ⟨o, d, upd_same⟩) (r.tp (.new n)))
/-- t + u, the new one's object known -/
def rCatN (K : PySem.W.Frag) : R2 := fun x y H Q => ∃ a b xs ys, x = .ref a ∧ y = .ref b ∧ SqT K H a xs ∧ SqT K H b ys ∧ xs.length + ys.length ≤ sizeLine ∧
  (xs = [] → Q (.ref b) H) ∧ (xs ≠ [] → ys = [] → Q (.ref a) H) ∧ (xs ≠ [] → ys ≠ [] → ∀ (o : Obj) p, o.dict = none → H p = none → Q (.ref p) (upd H p (.frz o (.tup (xs ++ ys)))))
theorem op_catN {X : Cx} : OpR X (binaryOp .Add) (rCatN X.K) := by
  intro pins s σ H x y v u Q I rx ry ⟨a, b, xs, ys, ea, eb, ha, hb, hz, q0, q1, q2⟩
  subst ea eb
  by_cases hx : xs = []
  · exact op_catA pins s σ H _ _ v u Q I rx ry ⟨a, b, xs, ys, rfl, rfl, ha, hb, hz, q0, fun k => absurd hx k, fun k => absurd hx k⟩
  · cases rx; cases ry
    obtain ⟨its, r1, p1, _⟩ := I.tuple ha
    obtain ⟨jts, r2, p2, _⟩ := I.tuple hb
    have hl : its.length + jts.length ≤ sizeLine := by rw [← r1.length, ← r2.length]; exact hz
    exact HT.cat_tup p1 p2 (fun z => hx (r1.nil_iff.mp z)) (fun z => ⟨.ref a, H, I, rfl, q1 hx (r2.nil_iff.mp z)⟩) (fun z =>
      ⟨.ref s.heap.objs.size, _, I.laid (t' := s.toks) (fun _ _ q => Heap.get?_push_of_some _ q) (Nat.le_refl _) (tupO_ok (by rw [List.length_append]; exact hz) (r1.append r2) (Heap.get?_push_size _ rfl)), rfl,
        q2 hx (fun w => z (r2.nil_iff.mpr w)) _ _ rfl (I.hok.fresh (Nat.le_refl _))⟩) hl

/-! ### + -/
theorem uAdd_mono : Mon2 uAdd := ⟨fun x y μ Q Q' hq h => by
  unfold uAdd at h ⊢
  split at h <;> first | exact hq _ _ h | exact ⟨h.1, hq _ _ h.2⟩ | skip
  · exact opt_mono (fun xs k => opt_mono (fun ys k2 => ⟨k2.1, fun p n => hq _ _ (k2.2 p n)⟩) k) h
  · exact h⟩
def rAddAll (K : PySem.W.Frag) : R2 := fun x y H Q => rI0 (fun i j => V.int (i + j)) x y H Q ∨ (∃ i j, x = .str i ∧ y = .str j ∧ i.length + j.length ≤ sizeLine ∧ Q (.str (i ++ j)) H) ∨ rCatN K x y H Q ∨ rCat x y H Q
theorem op_addAll {X : Cx} : OpR X (binaryOp .Add) (rAddAll X.K) := op_add.or (op_add_str.or (op_catN.or op_cat))
theorem uAdd_ln : Ln2 K (rAddAll K) uAdd := fun x y μ v u H Q s rx ry h => by
  unfold uAdd at h
  split at h
  · obtain rfl := rep_int rx
    obtain rfl := rep_int ry
    exact .inl ⟨_, _, rfl, rfl, ql_here h s mk_int⟩
  · obtain rfl := rep_str rx
    obtain rfl := rep_str ry
    exact .inr (.inl ⟨_, _, rfl, rfl, line_le h.1, ql_here h.2 s mk_str⟩)
  · obtain ⟨a, vs, rfl, ha, ra⟩ := rep_tup rx
    obtain ⟨b, ws, rfl, hb, rb⟩ := rep_tup ry
    refine .inr (.inr (.inl ⟨a, b, vs, ws, rfl, rfl, ha.seq, hb.seq, by rw [← ra.len, ← rb.len]; exact line_le h.1, fun e => ?_, fun _ e => ?_, fun _ _ => ql_newT s (ra.app rb) h.2⟩))
    · subst e
      have e2 := ra.len
      obtain rfl := List.eq_nil_of_length_eq_zero e2
      exact ql_here h.2 s (mk_tup hb rb)
    · subst e
      have e2 := rb.len
      obtain rfl := List.eq_nil_of_length_eq_zero e2
      rw [List.append_nil] at h
      exact ql_here h.2 s (mk_tup ha ra)
  · rename_i a b
    obtain rfl := rep_loc rx
    obtain rfl := rep_loc ry
    obtain ⟨xs, e1, h⟩ := opt_ex h
    obtain ⟨ys, e2, h⟩ := opt_ex h
    obtain ⟨vs, h1, r1⟩ := s.lst e1
    obtain ⟨ws, h2, r2⟩ := s.lst e2
    exact .inr (.inr (.inr ⟨a, b, vs, ws, rfl, rfl, h1, h2, by rw [← r1.len, ← r2.len]; exact line_le h.1, ql_newL s (r1.app r2) h.2⟩))
  · exact h.elim
theorem de_add {X : Cx} {W : WX} {a b : Expr} {ta tb : DE} {pos : Pos} (ha : PDE X W a ta) (hb : PDE X W b tb) : PDE X W (.BinOp a .Add b pos) (d2 uAdd ta tb) := de_op op_addAll uAdd_mono uAdd_ln ha hb

/-! ### -, *, //, %, **, << -/
theorem uSub_mono : Mon2 uSub := ⟨fun x y μ Q Q' hq h => by
  unfold uSub at h ⊢
  split at h <;> first | exact hq _ _ h | exact h⟩
theorem uSub_ln : Ln2 K (rI0 fun i j => V.int (i - j)) uSub := fun x y μ v u H Q s rx ry h => by
  unfold uSub at h
  split at h
  · obtain rfl := rep_int rx
    obtain rfl := rep_int ry
    exact ⟨_, _, rfl, rfl, ql_here h s mk_int⟩
  · exact h.elim
theorem de_sub {X : Cx} {W : WX} {a b : Expr} {ta tb : DE} {pos : Pos} (ha : PDE X W a ta) (hb : PDE X W b tb) : PDE X W (.BinOp a .Sub b pos) (d2 uSub ta tb) := de_op op_sub uSub_mono uSub_ln ha hb
theorem uMul_mono : Mon2 uMul := ⟨fun x y μ Q Q' hq h => by
  unfold uMul at h ⊢
  split at h
  · exact ⟨h.1, hq _ _ h.2⟩
  · exact opt_mono (fun xs k => ⟨k.1, fun p n => hq _ _ (k.2 p n)⟩) h
  · exact h⟩
theorem repL_ln {H : Hp} {xs : List D} {vs : List V} (r : RepL K H xs vs) : ∀ n : Nat, RepL K H (List.replicate n xs).flatten (List.replicate n vs).flatten
  | 0 => mk_nil
  | n + 1 => by
    rw [List.replicate_succ, List.replicate_succ, List.flatten_cons, List.flatten_cons]
    exact r.app (repL_ln r n)
theorem rRep_eq : (rRep : R2) = rRep := rfl
def rMulAll : R2 := fun x y H Q => rI CMulW (fun i j => V.int (i * j)) x y H Q ∨ rRep x y H Q
theorem op_mulAll {X : Cx} : OpR X (binaryOp .Mult) rMulAll := op_mulW.or op_rep
theorem uMul_ln : Ln2 K rMulAll uMul := fun x y μ v u H Q s rx ry h => by
  unfold uMul at h
  split at h
  · obtain rfl := rep_int rx
    obtain rfl := rep_int ry
    exact .inl ⟨_, _, rfl, rfl, h.1, ql_here h.2 s mk_int⟩
  · rename_i a k
    obtain rfl := rep_loc rx
    obtain rfl := rep_int ry
    obtain ⟨xs, e1, h⟩ := opt_ex h
    obtain ⟨vs, h1, r1⟩ := s.lst e1
    exact .inr ⟨a, k, vs, rfl, rfl, h1, h.1.1, h.1.2.1, by rw [← r1.len]; exact line_le h.1.2.2, ql_newL s (repL_ln r1 k.toNat) h.2⟩
  · exact h.elim
theorem de_mul {X : Cx} {W : WX} {a b : Expr} {ta tb : DE} {pos : Pos} (ha : PDE X W a ta) (hb : PDE X W b tb) : PDE X W (.BinOp a .Mult b pos) (d2 uMul ta tb) := de_op op_mulAll uMul_mono uMul_ln ha hb
theorem uDiv_mono : Mon2 uDiv := ⟨fun x y μ Q Q' hq h => by
  unfold uDiv at h ⊢
  split at h <;> first | exact ⟨h.1, hq _ _ h.2⟩ | exact h⟩
theorem uDiv_ln : Ln2 K (rI CDivW fun i j => V.int (i / j)) uDiv := fun x y μ v u H Q s rx ry h => by
  unfold uDiv at h
  split at h
  · obtain rfl := rep_int rx
    obtain rfl := rep_int ry
    exact ⟨_, _, rfl, rfl, h.1, ql_here h.2 s mk_int⟩
  · exact h.elim
theorem de_div {X : Cx} {W : WX} {a b : Expr} {ta tb : DE} {pos : Pos} (ha : PDE X W a ta) (hb : PDE X W b tb) : PDE X W (.BinOp a .FloorDiv b pos) (d2 uDiv ta tb) := de_op op_fdivW uDiv_mono uDiv_ln ha hb
theorem uMod_mono : Mon2 uMod := ⟨fun x y μ Q Q' hq h => by
  unfold uMod at h ⊢
  split at h <;> first | exact ⟨h.1, hq _ _ h.2⟩ | exact h⟩
theorem uMod_ln : Ln2 K (rI (fun _ j => 0 < j) fun i j => V.int (i % j)) uMod := fun x y μ v u H Q s rx ry h => by
  unfold uMod at h
  split at h
  · obtain rfl := rep_int rx
    obtain rfl := rep_int ry
    exact ⟨_, _, rfl, rfl, h.1, ql_here h.2 s mk_int⟩
  · exact h.elim
theorem de_mod {X : Cx} {W : WX} {a b : Expr} {ta tb : DE} {pos : Pos} (ha : PDE X W a ta) (hb : PDE X W b tb) : PDE X W (.BinOp a .Mod b pos) (d2 uMod ta tb) := de_op op_mod uMod_mono uMod_ln ha hb
theorem uPow_mono : Mon2 uPow := ⟨fun x y μ Q Q' hq h => by
  unfold uPow at h ⊢
  split at h <;> first | exact ⟨h.1, hq _ _ h.2⟩ | exact h⟩
theorem uPow_ln : Ln2 K (rI CPow fun i j => V.int (i ^ j.toNat)) uPow := fun x y μ v u H Q s rx ry h => by
  unfold uPow at h
  split at h
  · obtain rfl := rep_int rx
    obtain rfl := rep_int ry
    exact ⟨_, _, rfl, rfl, h.1, ql_here h.2 s mk_int⟩
  · exact h.elim
theorem de_pow {X : Cx} {W : WX} {a b : Expr} {ta tb : DE} {pos : Pos} (ha : PDE X W a ta) (hb : PDE X W b tb) : PDE X W (.BinOp a .Pow b pos) (d2 uPow ta tb) := de_op op_pow uPow_mono uPow_ln ha hb
theorem uShl_mono : Mon2 uShl := ⟨fun x y μ Q Q' hq h => by
  unfold uShl at h ⊢
  split at h <;> first | exact ⟨h.1, hq _ _ h.2⟩ | exact h⟩
theorem uShl_ln : Ln2 K (rI CPow fun i j => V.int (i * 2 ^ j.toNat)) uShl := fun x y μ v u H Q s rx ry h => by
  unfold uShl at h
  split at h
  · obtain rfl := rep_int rx
    obtain rfl := rep_int ry
    exact ⟨_, _, rfl, rfl, h.1, ql_here h.2 s mk_int⟩
  · exact h.elim
theorem de_shl {X : Cx} {W : WX} {a b : Expr} {ta tb : DE} {pos : Pos} (ha : PDE X W a ta) (hb : PDE X W b tb) : PDE X W (.BinOp a .LShift b pos) (d2 uShl ta tb) := de_op op_shl uShl_mono uShl_ln ha hb
theorem uNeg_mono : Mon1 uNeg := ⟨fun x μ Q Q' hq h => by
  unfold uNeg at h ⊢
  split at h <;> first | exact hq _ _ h | exact h⟩
theorem uNeg_ln : Ln1 K (rU fun i => V.int (-i)) uNeg := fun x μ v H Q s rx h => by
  unfold uNeg at h
  split at h
  · obtain rfl := rep_int rx
    exact ⟨_, rfl, ql_here h s mk_int⟩
  · exact h.elim
theorem de_neg {X : Cx} {W : WX} {a : Expr} {ta : DE} {pos : Pos} (ha : PDE X W a ta) : PDE X W (.UnaryOp .USub a pos) (d1 uNeg ta) := de_un un_neg uNeg_mono uNeg_ln ha

/-! ### comparisons of ints, with None -/
theorem uCmp_mono {p : Int → Int → Bool} : Mon2 (uCmp p) := ⟨fun x y μ Q Q' hq h => by
  unfold uCmp at h ⊢
  split at h <;> first | exact hq _ _ h | exact h⟩
theorem uCmp_ln {p : Int → Int → Bool} : Ln2 K (rI0 fun i j => V.bl (p i j)) (uCmp p) := fun x y μ v u H Q s rx ry h => by
  unfold uCmp at h
  split at h
  · obtain rfl := rep_int rx
    obtain rfl := rep_int ry
    exact ⟨_, _, rfl, rfl, ql_here h s mk_bl⟩
  · exact h.elim
theorem isNon_dec {H : Hp} {x : D} {v : V} (r : Rep K H x v) : decide (v = V.non) = isNon x := by
  cases x with
  | non => rw [rep_non r]; rfl
  | bl b => rw [rep_bl r]; rfl
  | int i => rw [rep_int r]; rfl
  | str z => rw [rep_str r]; rfl
  | tup xs => obtain ⟨a, _, e, _⟩ := rep_tup r; rw [e]; rfl
  | wtup xs => obtain ⟨a, _, e, _⟩ := rep_wtup r; rw [e]; rfl
  | exv a d ns xs => rw [(rep_exv r).1]; rfl
  | rol xs => obtain ⟨a, _, e, _⟩ := rep_rol r; rw [e]; rfl
  | loc a => rw [rep_loc r]; rfl
theorem uIs_mono : Mon2 uIs := ⟨fun x y μ Q Q' hq h => by
  unfold uIs at h ⊢
  split at h <;> first | exact hq _ _ h | exact h⟩
theorem uIs_ln : Ln2 K (fun x y H Q => y = .non ∧ Q (.bl (decide (x = V.non))) H) uIs := fun x y μ v u H Q s rx ry h => by
  unfold uIs at h
  split at h
  · obtain rfl := rep_non ry
    exact ⟨rfl, by rw [isNon_dec rx]; exact ql_here h s mk_bl⟩
  · exact h.elim
theorem uIsNot_mono : Mon2 uIsNot := ⟨fun x y μ Q Q' hq h => by
  unfold uIsNot at h ⊢
  split at h <;> first | exact hq _ _ h | exact h⟩
theorem uIsNot_ln : Ln2 K (fun x y H Q => y = .non ∧ Q (.bl (!decide (x = V.non))) H) uIsNot := fun x y μ v u H Q s rx ry h => by
  unfold uIsNot at h
  split at h
  · obtain rfl := rep_non ry
    exact ⟨rfl, by rw [isNon_dec rx]; exact ql_here h s mk_bl⟩
  · exact h.elim

/-! ### == -/
mutual
def toPy : D → PyData
  | .non => .none
  | .bl b => .bool b
  | .int i => .int i
  | .str x => .str x
  | .tup xs => .tuple (toPyL xs)
  | .rol xs => .list (toPyL xs)
  | .wtup xs => .tuple (toPyL xs)
  | .exv .. => .none
  | .loc _ => .none
def toPyL : List D → List PyData
  | [] => []
  | x :: xs => toPy x :: toPyL xs
end
mutual
theorem py_dp {H : Hp} : ∀ {d : D} {v : V}, plain d = true → Rep K H d v → Dp K H v (toPy d)
  | .non, _, _, r => by rw [rep_non r]; simp only [toPy]; exact .non
  | .bl b, _, _, r => by rw [rep_bl r]; simp only [toPy]; exact .bl b
  | .int i, _, _, r => by rw [rep_int r]; simp only [toPy]; exact .int i
  | .str x, _, _, r => by rw [rep_str r]; simp only [toPy]; exact .str x
  | .tup xs, _, p, r => by
    obtain ⟨a, vs, e, q, rr⟩ := rep_tup r
    simp only [plain] at p
    rw [e]
    simp only [toPy]
    exact .tup q.seq (py_dpL p rr)
  | .rol _, _, p, _ => by simp [plain] at p
  | .loc _, _, p, _ => by simp [plain] at p
theorem py_dpL {H : Hp} : ∀ {ds : List D} {vs : List V}, plainL ds = true → RepL K H ds vs → DpAll K H vs (toPyL ds)
  | [], _, _, r => by rw [repl_nil r]; simp only [toPyL]; exact .nil
  | d :: ds, _, p, r => by
    obtain ⟨v, w, e, r1, r2⟩ := repl_cons r
    simp only [plainL, Bool.and_eq_true] at p
    rw [e]
    simp only [toPyL]
    exact .cons (py_dp p.1 r1) (py_dpL p.2 r2)
end
mutual
theorem py_lay : ∀ {d : D}, plain d = true → (toPy d).canLay0 = true
  | .non, _ => by simp only [toPy, PyData.canLay0]
  | .bl b, _ => by simp only [toPy, PyData.canLay0]
  | .int i, _ => by simp only [toPy, PyData.canLay0]
  | .str x, p => by
    simp only [plain] at p
    simp only [toPy, PyData.canLay0]
    exact p
  | .tup xs, p => by
    simp only [plain] at p
    simp only [toPy, PyData.canLay0]
    exact py_layL p
  | .rol _, p => by simp [plain] at p
  | .loc _, p => by simp [plain] at p
theorem py_layL : ∀ {ds : List D}, plainL ds = true → PyData.canLayAll0 (toPyL ds) = true
  | [], _ => by simp only [toPyL, PyData.canLayAll0]
  | d :: ds, p => by
    simp only [plainL, Bool.and_eq_true] at p
    simp only [toPyL, PyData.canLayAll0, py_lay p.1, py_layL p.2, Bool.and_self]
end
mutual
theorem py_depth : ∀ {d : D}, plain d = true → (toPy d).depth = depth d
  | .non, _ => by simp only [toPy, PyData.depth, depth]
  | .bl b, _ => by simp only [toPy, PyData.depth, depth]
  | .int i, _ => by simp only [toPy, PyData.depth, depth]
  | .str x, p => by simp only [toPy, PyData.depth, depth]
  | .tup xs, p => by
    simp only [plain] at p
    simp only [toPy, PyData.depth, depth, py_depthL p]
  | .rol _, p => by simp [plain] at p
  | .loc _, p => by simp [plain] at p
theorem py_depthL : ∀ {ds : List D}, plainL ds = true → PyData.depthAll (toPyL ds) = depthL ds
  | [], _ => by simp only [toPyL, PyData.depthAll, depthL]
  | d :: ds, p => by
    simp only [plainL, Bool.and_eq_true] at p
    simp only [toPyL, PyData.depthAll, depthL, py_depth p.1, py_depthL p.2]
end
mutual
theorem py_eqv : ∀ {x y : D}, plain x = true → plain y = true → PyData.eqv (toPy x) (toPy y) = eqD x y
  | .tup xs, .tup ys, p, q => by
    simp only [plain] at p q
    simp only [toPy, PyData.eqv, eqD, py_eqvL p q]
  | .rol _, _, p, _ => by simp [plain] at p
  | .loc _, _, p, _ => by simp [plain] at p
  | _, .rol _, _, q => by simp [plain] at q
  | _, .loc _, _, q => by simp [plain] at q
  | .non, .non, _, _ | .non, .bl _, _, _ | .non, .int _, _, _ | .non, .str _, _, _ | .non, .tup _, _, _ => by simp only [toPy, PyData.eqv, eqD]
  | .bl _, .non, _, _ | .bl _, .bl _, _, _ | .bl _, .int _, _, _ | .bl _, .str _, _, _ | .bl _, .tup _, _, _ => by simp only [toPy, PyData.eqv, eqD]
  | .int _, .non, _, _ | .int _, .bl _, _, _ | .int _, .int _, _, _ | .int _, .str _, _, _ | .int _, .tup _, _, _ => by simp only [toPy, PyData.eqv, eqD]
  | .str _, .non, _, _ | .str _, .bl _, _, _ | .str _, .int _, _, _ | .str _, .str _, _, _ | .str _, .tup _, _, _ => by simp only [toPy, PyData.eqv, eqD]
  | .tup _, .non, _, _ | .tup _, .bl _, _, _ | .tup _, .int _, _, _ | .tup _, .str _, _, _ => by simp only [toPy, PyData.eqv, eqD]
theorem py_eqvL : ∀ {xs ys : List D}, plainL xs = true → plainL ys = true → PyData.eqvAll (toPyL xs) (toPyL ys) = eqL xs ys
  | [], [], _, _ => by simp only [toPyL, PyData.eqvAll, eqL]
  | [], _ :: _, _, _ => by simp only [toPyL, PyData.eqvAll, eqL]
  | _ :: _, [], _, _ => by simp only [toPyL, PyData.eqvAll, eqL]
  | x :: xs, y :: ys, p, q => by
    simp only [plainL, Bool.and_eq_true] at p q
    simp only [toPyL, PyData.eqvAll, eqL, py_eqv p.1 q.1, py_eqvL p.2 q.2]
end
theorem eqR_mono {x y : D} {μ : Sto} {R R' : Bool → Prop} (h : ∀ b, R b → R' b) (q : eqR x y μ R) : eqR x y μ R' := by
  unfold eqR at q ⊢
  split at q
  · exact opt_mono (fun xs k => opt_mono (fun ys k2 => ⟨k2.1, k2.2.1, h _ k2.2.2⟩) k) q
  · exact ⟨q.1, q.2.1, h _ q.2.2⟩
theorem shaped_of {x : D} (h : EqOk x) : SeqAt.shaped (toPy x) = true := by
  unfold SeqAt.shaped
  rw [py_lay h.1, py_depth h.1, decide_eq_true h.2]
  rfl
theorem shaped_ofL {xs : List D} (h : EqOkL xs) : SeqAt.shaped (.list (toPyL xs)) = true := by
  unfold SeqAt.shaped
  have e : (PyData.list (toPyL xs)).canLay0 = true := by simp only [PyData.canLay0]; exact py_layL h.1
  have e2 : (PyData.list (toPyL xs)).depth = depthL xs + 1 := by simp only [PyData.depth, py_depthL h.1]
  rw [e, e2, decide_eq_true (show depthL xs + 1 ≤ 64 from h.2)]
  rfl
theorem eqR_ln {x y : D} {μ : Sto} {v u : V} {H : Hp} {R : Bool → Prop} (s : StR K H μ) (rx : Rep K H x v) (ry : Rep K H y u) (h : eqR x y μ R) : ∃ d e, Dp K H v d ∧ Dp K H u e ∧ SeqAt.shaped d = true ∧ SeqAt.shaped e = true ∧ R (PyData.eqv d e) := by
  unfold eqR at h
  split at h
  · rename_i a b
    obtain rfl := rep_loc rx
    obtain rfl := rep_loc ry
    obtain ⟨xs, e1, h⟩ := opt_ex h
    obtain ⟨ys, e2, h⟩ := opt_ex h
    obtain ⟨vs, h1, r1⟩ := s.lst e1
    obtain ⟨ws, h2, r2⟩ := s.lst e2
    · refine ⟨_, _, .lst (.of h1) (py_dpL h.1.1 r1), .lst (.of h2) (py_dpL h.2.1.1 r2), shaped_ofL h.1, shaped_ofL h.2.1, ?_⟩
      have e : PyData.eqv (.list (toPyL xs)) (.list (toPyL ys)) = eqL xs ys := by simp only [PyData.eqv, py_eqvL h.1.1 h.2.1.1]
      rw [e]
      exact h.2.2
  · refine ⟨_, _, py_dp h.1.1 rx, py_dp h.2.1.1 ry, shaped_of h.1, shaped_of h.2.1, ?_⟩
    rw [py_eqv h.1.1 h.2.1.1]
    exact h.2.2
theorem uEq_mono : Mon2 uEq := ⟨fun x y μ Q Q' hq h => eqR_mono (fun _ k => hq _ _ k) h⟩
theorem uNe_mono : Mon2 uNe := ⟨fun x y μ Q Q' hq h => eqR_mono (fun _ k => hq _ _ k) h⟩
theorem uEq_ln : Ln2 K (rEqD K) uEq := fun x y μ v u H Q s rx ry h => by
  obtain ⟨d, e, h1, h2, h3, h4, h5⟩ := eqR_ln s rx ry h
  exact ⟨d, e, h1, h2, h3, h4, ql_here h5 s mk_bl⟩
theorem uNe_ln : Ln2 K (rNeD K) uNe := fun x y μ v u H Q s rx ry h => by
  obtain ⟨d, e, h1, h2, h3, h4, h5⟩ := eqR_ln s rx ry h
  exact ⟨d, e, h1, h2, h3, h4, ql_here h5 s mk_bl⟩
end

/-! ### the comparisons as rules -/
section
variable {X : Cx} {W : WX} {a b c : Expr} {ta tb tc : DE} {pos : Pos}
/-- a comparison's machine rule with what the data asks -/
structure CmpK (X : Cx) (op : CmpOp) (g : U2) : Prop where
  ex : ∃ r, OpR X (compareOp op) r ∧ Ln2 X.K r g
  mono : Mon2 g
theorem ck_lt : CmpK X .Lt uLt := ⟨⟨_, op_lt, uCmp_ln⟩, uCmp_mono⟩
theorem ck_le : CmpK X .LtE uLe := ⟨⟨_, op_le, uCmp_ln⟩, uCmp_mono⟩
theorem ck_gt : CmpK X .Gt uGt := ⟨⟨_, op_gt, uCmp_ln⟩, uCmp_mono⟩
theorem ck_ge : CmpK X .GtE uGe := ⟨⟨_, op_ge, uCmp_ln⟩, uCmp_mono⟩
theorem ck_is : CmpK X .Is uIs := ⟨⟨_, op_isN, uIs_ln⟩, uIs_mono⟩
theorem ck_isnot : CmpK X .IsNot uIsNot := ⟨⟨_, op_notN, uIsNot_ln⟩, uIsNot_mono⟩
theorem ck_eq {k : Nat} (hr : Room k X.A) : CmpK X .Eq uEq := ⟨⟨_, op_eqD hr.units, uEq_ln⟩, uEq_mono⟩
theorem ck_ne {k : Nat} (hr : Room k X.A) : CmpK X .NotEq uNe := ⟨⟨_, op_neD hr.units, uNe_ln⟩, uNe_mono⟩
theorem de_ck {op : CmpOp} {g : U2} (c : CmpK X op g) (ha : PDE X W a ta) (hb : PDE X W b tb) (hm : behindInMarks op b = false) : PDE X W (.Compare a [op] [b] pos) (d2 g ta tb) :=
  let ⟨_, ho, l⟩ := c.ex
  de_cmp ho c.mono l ha hb hm
theorem dt_ck {op : CmpOp} {g : U2} (c : CmpK X op g) (ha : PDE X W a ta) (hb : PDE X W b tb) (hm : behindInMarks op b = false) : PDT X W (.Compare a [op] [b] pos) (dTest (d2 g ta tb)) :=
  let ⟨_, ho, l⟩ := c.ex
  dt_cmp ho c.mono l ha hb hm
theorem de_ck2 {op op' : CmpOp} {g h : U2} (k : CmpK X op g) (k' : CmpK X op' h) (ha : PDE X W a ta) (hb : PDE X W b tb) (hc : PDE X W c tc) (hm : lastMarks [op, op'] [b, c] = false := by with_unfolding_all rfl) : PDE X W (.Compare a [op, op'] [b, c] pos) (dChain g h ta tb tc) :=
  let ⟨_, ho, l⟩ := k.ex
  let ⟨_, ho', l'⟩ := k'.ex
  de_chain ho ho' k.mono k'.mono l l' ha hb hc hm
theorem dt_ck2 {op op' : CmpOp} {g h : U2} (k : CmpK X op g) (k' : CmpK X op' h) (ha : PDE X W a ta) (hb : PDE X W b tb) (hc : PDE X W c tc) (hm : lastMarks [op, op'] [b, c] = false := by with_unfolding_all rfl) : PDT X W (.Compare a [op, op'] [b, c] pos) (dTest (dChain g h ta tb tc)) :=
  let ⟨_, ho, l⟩ := k.ex
  let ⟨_, ho', l'⟩ := k'.ex
  dt_chain ho ho' k.mono k'.mono l l' ha hb hc hm
end
end PD
set_option Elab.async false
set_option linter.all false
set_option maxRecDepth 100000
set_option maxHeartbeats 4000000
namespace PD
open PySem PySem.Spec PyProof.Rows L2

section
variable {K : PySem.W.Frag}
/-! ### what a thing holds -/
theorem seqOf_ln {H : Hp} {x : D} {μ : Sto} {v : V} {xs : List D} (s : StR K H μ) (r : Rep K H x v) (e : seqOf x μ = some xs) : ∃ a vs, v = .ref a ∧ (SqL K H a vs ∨ SqT K H a vs) ∧ RepL K H xs vs := by
  unfold seqOf at e
  split at e
  · cases e
    obtain ⟨a, vs, ev, q, rr⟩ := rep_tup r
    exact ⟨a, vs, ev, .inr q.seq, rr⟩
  · cases e
    obtain ⟨a, vs, ev, q, rr⟩ := rep_wtup r
    exact ⟨a, vs, ev, .inr q, rr⟩
  · cases e
    obtain ⟨a, vs, ev, q, rr⟩ := rep_rol r
    exact ⟨a, vs, ev, .inl q.seq, rr⟩
  · rename_i p
    obtain ⟨vs, h1, rr⟩ := s.lst e
    exact ⟨p, vs, rep_loc r, .inl (.of h1), rr⟩
  · cases e
theorem atI_ln {H : Hp} {xs : List D} {vs : List V} {i : Int} {d : D} (r : RepL K H xs vs) (e : atI xs i = some d) : ∃ v, L2.atI vs i = some v ∧ Rep K H d v := by
  unfold atI at e
  cases q : ixN xs.length i with
  | none => rw [q] at e; cases e
  | some j =>
    rw [q] at e
    obtain ⟨v, h1, h2⟩ := r.get (show xs[j]? = some d from e)
    refine ⟨v, ?_, h2⟩
    unfold L2.atI
    rw [← r.len, ixN_eq, q]
    exact h1
theorem uIx_mono : Mon2 uIx := ⟨fun x y μ Q Q' hq h => by
  unfold uIx at h ⊢
  split at h
  · exact opt_mono (fun xs z => opt_mono (fun d k => hq _ _ k) z) h
  · exact h⟩
theorem uIx_ln : Ln2 K (rIx K) uIx := fun x y μ v u H Q s rx ry h => by
  unfold uIx at h
  split at h
  · obtain rfl := rep_int ry
    obtain ⟨xs, e1, h⟩ := opt_ex h
    obtain ⟨d, e2, h⟩ := opt_ex h
    obtain ⟨a, vs, rfl, q, rr⟩ := seqOf_ln s rx e1
    obtain ⟨w, h1, h2⟩ := atI_ln rr e2
    rcases q with q | q
    · exact .inl ⟨a, vs, _, w, rfl, rfl, q, h1, ql_here h s h2⟩
    · exact .inr (.inl ⟨a, vs, _, w, rfl, rfl, q, h1, ql_here h s h2⟩)
  · exact h.elim
theorem de_sub2 {X : Cx} {W : WX} {a b : Expr} {ta tb : DE} {pos : Pos} (ha : PDE X W a ta) (hb : PDE X W b tb) (hs : PlainIx b := by intro _ _; rfl) : PDE X W (.Subscript a b pos) (d2 uIx ta tb) := de_ix ix_seq uIx_mono uIx_ln ha hb hs

/-! ### cuts -/
theorem cut_ix (n d : Nat) (o : Option Int) : HT.sIx n d o = cutIx n d o := by
  cases o with
  | none => rfl
  | some v =>
    unfold HT.sIx cutIx
    first | rfl | (split <;> split <;> omega) | (simp only []; split <;> omega)
theorem cutL_ln {H : Hp} {xs : List D} {vs : List V} {lo hi : Option Int} (r : RepL K H xs vs) : RepL K H (cutL xs lo hi) (cutV vs lo hi) := by
  unfold cutL cutV
  rw [cut_ix, cut_ix, ← r.len]
  exact (r.drop _).take _
/-- t[lo:hi], the new one's object known -/
def rSlN (K : PySem.W.Frag) : V → Option Int → Option Int → Hp → VK → Prop := fun x lo hi H Q => ∃ a xs, x = .ref a ∧ SqT K H a xs ∧
  (HT.sIx xs.length 0 lo = 0 ∧ HT.sIx xs.length xs.length hi = xs.length → Q (.ref a) H) ∧ (¬ (HT.sIx xs.length 0 lo = 0 ∧ HT.sIx xs.length xs.length hi = xs.length) → ∀ (o : Obj) p, o.dict = none → H p = none → Q (.ref p) (upd H p (.frz o (.tup (cutV xs lo hi)))))
theorem sl_tupN {X : Cx} : SlR X (rSlN X.K) := by
  intro pins s σ H x v vl vu lo hi sl Q I rx hs pl pu ⟨a, xs, ex, hx, q1, q2⟩
  subst ex
  by_cases hw : HT.sIx xs.length 0 lo = 0 ∧ HT.sIx xs.length xs.length hi = xs.length
  · exact sl_tupA pins s σ H _ v vl vu lo hi sl Q I rx hs pl pu ⟨a, xs, rfl, hx, q1, fun k => absurd hw k⟩
  · cases rx
    obtain ⟨its, r, ht, hz⟩ := I.tuple hx
    have el : its.toArray.size = xs.length := r.length.symm
    refine ⟨"tuple", _, PyProof.Rows.slot_tuple_getitem.lookup, ht.typeIs, HT.getItem_tuple_cut ht hs pl pu (by rw [el]; exact hw) ?_ (by rw [el]; exact hz)⟩
    rw [el]
    have hv := (r.drop (HT.sIx xs.length 0 lo)).take (HT.sIx xs.length xs.length hi - HT.sIx xs.length 0 lo)
    exact ⟨.ref s.heap.objs.size, _, I.laid (t' := s.toks) (fun _ _ q => Heap.get?_push_of_some _ q) (Nat.le_refl _) (tupO_ok (Nat.le_trans (cutV_length xs lo hi) hz) hv (Heap.get?_push_size _ rfl)), rfl, q2 hw _ _ rfl (I.hok.fresh (Nat.le_refl _))⟩
def rCut (K : PySem.W.Frag) : V → Option Int → Option Int → Hp → VK → Prop := fun x lo hi H Q => rSlL K x lo hi H Q ∨ rSlN K x lo hi H Q
theorem sl_all {X : Cx} : SlR X (rCut X.K) := sl_list.or sl_tupN
theorem cutR_ln {H : Hp} {x : D} {μ : Sto} {v : V} {lo hi : Option Int} {Q : VK} (s : StR K H μ) (r : Rep K H x v) (h : cutR x lo hi μ (QL K H Q)) : rCut K v lo hi H Q := by
  unfold cutR at h
  split at h
  · rename_i xs
    obtain ⟨a, vs, rfl, q, rr⟩ := rep_tup r
    have rc := cutL_ln (lo := lo) (hi := hi) rr
    refine .inr ⟨a, vs, rfl, q.seq, fun e => ?_, fun _ => ql_newT s rc h⟩
    have ew : cutL xs lo hi = xs := by
      unfold cutL
      rw [← cut_ix, ← cut_ix, rr.len, e.1, e.2, List.drop_zero, Nat.sub_zero, ← rr.len, List.take_length]
    rw [ew] at h
    exact ql_here h s (mk_tup q rr)
  · obtain ⟨a, vs, rfl, q, rr⟩ := rep_rol r
    exact .inl ⟨a, vs, rfl, q.seq, ql_newL s (cutL_ln rr) h⟩
  · rename_i p
    obtain rfl := rep_loc r
    obtain ⟨xs, e1, h⟩ := opt_ex h
    obtain ⟨vs, h1, rr⟩ := s.lst e1
    exact .inl ⟨p, vs, rfl, .of h1, ql_newL s (cutL_ln rr) h⟩
  · exact h.elim
theorem cutR_mono {x : D} {lo hi : Option Int} {μ : Sto} {Q Q' : QE} (hq : ∀ d μ', Q d μ' → Q' d μ') (h : cutR x lo hi μ Q) : cutR x lo hi μ Q' := by
  unfold cutR at h ⊢
  split at h
  · exact hq _ _ h
  · exact fun p n => hq _ _ (h p n)
  · exact opt_mono (fun xs k p n => hq _ _ (k p n)) h
  · exact h
theorem cutR_later {H H1 : Hp} (t : Tp H H1) {x : D} {lo hi : Option Int} {μ : Sto} {Q : VK} (h : cutR x lo hi μ (QL K H Q)) : cutR x lo hi μ (QL K H1 Q) := cutR_mono (fun _ _ k => QL.later t k) h
theorem asI_ex {d : D} {R : Int → Prop} (h : asI d R) : ∃ i, d = .int i ∧ R i := by
  cases d <;> first | exact ⟨_, rfl, h⟩ | exact h.elim
theorem asI_mono {d : D} {R R' : Int → Prop} (hr : ∀ i, R i → R' i) (h : asI d R) : asI d R' := by
  cases d <;> first | exact hr _ h | exact h
end
section
variable {X : Cx} {W : WX} {a l h : Expr} {ta tl th : DE} {pos p2 : Pos}
theorem de_cut00 (ha : PDE X W a ta) : PDE X W (.Subscript a (.Slice none none none p2) pos) (dCut ta none none) where
  mono := fun ρ μ Q Q' E E' hq hx z => ha.mono ρ μ _ _ _ _ (fun x μ1 k => cutR_mono hq k) hx z
  run := PE_imp (pe_slice sl_all ha.run po_none po_none) fun σ H Q ⟨ρ, μ, he, hs, z⟩ => ⟨ρ, μ, he, hs, ha.mono ρ μ _ _ _ _ (fun x μ1 k v H1 t1 s1 r1 => cutR_ln s1 r1 (cutR_later t1 k)) (fun _ _ k => k) z⟩
theorem de_cut10 (ha : PDE X W a ta) (hl : PDE X W l tl) : PDE X W (.Subscript a (.Slice (some l) none none p2) pos) (dCut ta (some tl) none) where
  mono := fun ρ μ Q Q' E E' hq hx z => ha.mono ρ μ _ _ _ _ (fun x μ1 k => hl.mono ρ μ1 _ _ _ _ (fun y μ2 k2 => asI_mono (fun i => cutR_mono hq) k2) hx k) hx z
  run := PE_imp (pe_slice sl_all ha.run (po_some hl.run) po_none) fun σ H Q ⟨ρ, μ, he, hs, z⟩ => ⟨ρ, μ, he, hs, ha.mono ρ μ _ _ _ _ (fun x μ1 k v H1 t1 s1 r1 =>
    ⟨ρ, μ1, he.tp t1, s1, hl.mono ρ μ1 _ _ _ _ (fun y μ2 k2 w H2 t2 s2 r2 => by
      obtain ⟨i, rfl, k3⟩ := asI_ex k2
      exact ⟨i, rep_int r2, cutR_ln s2 (r1.tp t2) (cutR_later (t1.trans t2) k3)⟩) (fun _ _ k => XL.later t1 k) k⟩) (fun _ _ k => k) z⟩
theorem de_cut01 (ha : PDE X W a ta) (hh : PDE X W h th) : PDE X W (.Subscript a (.Slice none (some h) none p2) pos) (dCut ta none (some th)) where
  mono := fun ρ μ Q Q' E E' hq hx z => ha.mono ρ μ _ _ _ _ (fun x μ1 k => hh.mono ρ μ1 _ _ _ _ (fun y μ2 k2 => asI_mono (fun i => cutR_mono hq) k2) hx k) hx z
  run := PE_imp (pe_slice sl_all ha.run po_none (po_some hh.run)) fun σ H Q ⟨ρ, μ, he, hs, z⟩ => ⟨ρ, μ, he, hs, ha.mono ρ μ _ _ _ _ (fun x μ1 k v H1 t1 s1 r1 =>
    ⟨ρ, μ1, he.tp t1, s1, hh.mono ρ μ1 _ _ _ _ (fun y μ2 k2 w H2 t2 s2 r2 => by
      obtain ⟨i, rfl, k3⟩ := asI_ex k2
      exact ⟨i, rep_int r2, cutR_ln s2 (r1.tp t2) (cutR_later (t1.trans t2) k3)⟩) (fun _ _ k => XL.later t1 k) k⟩) (fun _ _ k => k) z⟩
theorem de_cut11 (ha : PDE X W a ta) (hl : PDE X W l tl) (hh : PDE X W h th) : PDE X W (.Subscript a (.Slice (some l) (some h) none p2) pos) (dCut ta (some tl) (some th)) where
  mono := fun ρ μ Q Q' E E' hq hx z => ha.mono ρ μ _ _ _ _ (fun x μ1 k => hl.mono ρ μ1 _ _ _ _ (fun y μ2 k2 => asI_mono (fun i k4 => hh.mono ρ μ2 _ _ _ _ (fun w μ3 k3 => asI_mono (fun j => cutR_mono hq) k3) hx k4) k2) hx k) hx z
  run := PE_imp (pe_slice sl_all ha.run (po_some hl.run) (po_some hh.run)) fun σ H Q ⟨ρ, μ, he, hs, z⟩ => ⟨ρ, μ, he, hs, ha.mono ρ μ _ _ _ _ (fun x μ1 k v H1 t1 s1 r1 =>
    ⟨ρ, μ1, he.tp t1, s1, hl.mono ρ μ1 _ _ _ _ (fun y μ2 k2 w H2 t2 s2 r2 => by
      obtain ⟨i, rfl, k3⟩ := asI_ex k2
      exact ⟨i, rep_int r2, ρ, μ2, he.tp (t1.trans t2), s2, hh.mono ρ μ2 _ _ _ _ (fun w2 μ3 k4 u H3 t3 s3 r3 => by
        obtain ⟨j, rfl, k5⟩ := asI_ex k4
        exact ⟨j, rep_int r3, cutR_ln s3 (r1.tp (t2.trans t3)) (cutR_later (t1.trans (t2.trans t3)) k5)⟩) (fun _ _ k => XL.later (t1.trans t2) k) k3⟩) (fun _ _ k => XL.later t1 k) k⟩) (fun _ _ k => k) z⟩
end

/-! ### built-in functions -/
section
variable {K : PySem.W.Frag}
theorem lenOf_ln {H : Hp} {x : D} {μ : Sto} {v : V} {n : Nat} (s : StR K H μ) (r : Rep K H x v) (e : lenOf x μ = some n) :
    (∃ p ys, v = .ref p ∧ (SqL K H p ys ∨ SqT K H p ys) ∧ ys.length = n) ∨ ∃ z, v = .str z ∧ z.length ≤ sizeLine ∧ z.length = n := by
  unfold lenOf at e
  split at e
  · split at e
    · rename_i z hz
      cases e
      exact .inr ⟨z, rep_str r, line_le hz, rfl⟩
    · cases e
  · cases q : seqOf x μ with
    | none => rw [q] at e; cases e
    | some xs =>
      rw [q] at e
      cases e
      obtain ⟨a, vs, ev, h1, rr⟩ := seqOf_ln s r q
      exact .inl ⟨a, vs, ev, h1, rr.len.symm⟩
theorem one_of {H : Hp} {x : D} {vs : List V} (r : RepL K H [x] vs) : ∃ v, vs = [v] ∧ Rep K H x v := by
  obtain ⟨v, w, e, r1, r2⟩ := repl_cons r
  rw [repl_nil r2] at e
  exact ⟨v, e, r1⟩
theorem two_of {H : Hp} {x y : D} {vs : List V} (r : RepL K H [x, y] vs) : ∃ v u, vs = [v, u] ∧ Rep K H x v ∧ Rep K H y u := by
  obtain ⟨v, w, e, r1, r2⟩ := repl_cons r
  obtain ⟨u, e2, r3⟩ := one_of r2
  rw [e2] at e
  exact ⟨v, u, e, r1, r3⟩
def rLenAll (K : PySem.W.Frag) : List V → Hp → VK → Prop := fun xs H Q => (∃ p ys, xs = [.ref p] ∧ (SqL K H p ys ∨ SqT K H p ys) ∧ Q (.int ys.length) H) ∨ ∃ z, xs = [.str z] ∧ z.length ≤ sizeLine ∧ Q (.int z.length) H
theorem call_lenAll {X : Cx} : CallR X (.builtin "len") (rLenAll X.K) := call_len_seq.or call_len_str
theorem aLen_mono : MonA aLen := ⟨fun xs μ Q Q' hq h => by
  unfold aLen at h ⊢
  split at h
  · exact opt_mono (fun n k => hq _ _ k) h
  · exact h⟩
theorem aLen_ln : LnA K (rLenAll K) aLen := fun xs μ vs H Q s r h => by
  unfold aLen at h
  split at h
  · obtain ⟨v, rfl, r1⟩ := one_of r
    obtain ⟨n, e, h⟩ := opt_ex h
    rcases lenOf_ln s r1 e with ⟨p, ys, rfl, q, rfl⟩ | ⟨z, rfl, q, rfl⟩
    · exact .inl ⟨p, ys, rfl, q, ql_here h s mk_int⟩
    · exact .inr ⟨z, rfl, q, ql_here h s mk_int⟩
  · exact h.elim
theorem aInt_mono : MonA aInt := ⟨fun xs μ Q Q' hq h => by
  unfold aInt at h ⊢
  split at h <;> first | exact hq _ _ h | exact h⟩
theorem aInt_ln : LnA K (fun xs H Q => (∃ i, xs = [.int i] ∧ Q (.int i) H) ∨ ∃ k, xs = [.bl k] ∧ Q (.int (if k then 1 else 0)) H) aInt := fun xs μ vs H Q s r h => by
  unfold aInt at h
  split at h
  · obtain ⟨v, rfl, r1⟩ := one_of r
    obtain rfl := rep_int r1
    exact .inl ⟨_, rfl, ql_here h s mk_int⟩
  · obtain ⟨v, rfl, r1⟩ := one_of r
    obtain rfl := rep_bl r1
    exact .inr ⟨_, rfl, ql_here h s mk_int⟩
  · exact h.elim
theorem aAbs_mono : MonA aAbs := ⟨fun xs μ Q Q' hq h => by
  unfold aAbs at h ⊢
  split at h <;> first | exact hq _ _ h | exact h⟩
theorem aAbs_ln : LnA K (fun xs H Q => ∃ i, xs = [.int i] ∧ Q (.int (if i < 0 then -i else i)) H) aAbs := fun xs μ vs H Q s r h => by
  unfold aAbs at h
  split at h
  · obtain ⟨v, rfl, r1⟩ := one_of r
    obtain rfl := rep_int r1
    exact ⟨_, rfl, ql_here h s mk_int⟩
  · exact h.elim
def rTupAll (K : PySem.W.Frag) : List V → Hp → VK → Prop := fun xs H Q => ∃ p ys, xs = [.ref p] ∧ ((SqL K H p ys ∧ ∀ (o : Obj) l, o.dict = none → H l = none → Q (.ref l) (upd H l (.frz o (.tup ys)))) ∨ (SqT K H p ys ∧ Q (.ref p) H))
theorem call_tupN {X : Cx} : CallR X (.type "tuple") (rTupAll X.K) := by
  intro pins s σ H xs us Q I r ⟨p, ys, e, h⟩
  rcases h with ⟨hq, q⟩ | ⟨hq, q⟩
  · subst e
    obtain ⟨u, rfl, rx⟩ := vals1 r
    cases rx
    obtain ⟨its, rr, pl, hz⟩ := I.list hq
    refine call_tuple_list pl.isList (fun h' kp => ?_) (by rw [List.size_toArray, ← rr.length]; exact hz)
    have I1 : Inv X pins σ H { s with heap := h' } := I.kept (t' := s.toks) kp
    exact ⟨.ref h'.objs.size, _, I1.laid (t' := s.toks) (fun _ _ e => Heap.get?_push_of_some _ e) (Nat.le_refl _) (tupO_ok hz rr (Heap.get?_push_size _ rfl)), rfl, q _ _ rfl (I1.hok.fresh (Nat.le_refl _))⟩
  · exact call_tuple_of pins s σ H xs us Q I r ⟨p, ys, e, .inr ⟨hq, q⟩⟩
theorem aTuple_mono : MonA aTuple := ⟨fun xs μ Q Q' hq h => by
  unfold aTuple at h ⊢
  split at h
  · exact hq _ _ h
  · exact opt_mono (fun n k => hq _ _ k) h
  · exact h⟩
theorem lstOf_ln {H : Hp} {x : D} {μ : Sto} {v : V} {xs : List D} (s : StR K H μ) (r : Rep K H x v) (e : lstOf x μ = some xs) : ∃ a vs, v = .ref a ∧ SqL K H a vs ∧ RepL K H xs vs := by
  unfold lstOf at e
  split at e
  · cases e
    obtain ⟨a, vs, ev, q, rr⟩ := rep_rol r
    exact ⟨a, vs, ev, q.seq, rr⟩
  · obtain ⟨vs, h1, rr⟩ := s.lst e
    exact ⟨_, vs, rep_loc r, .of h1, rr⟩
  · cases e
theorem aTuple_ln : LnA K (rTupAll K) aTuple := fun xs μ vs H Q s r h => by
  unfold aTuple at h
  split at h
  · obtain ⟨v, rfl, r1⟩ := one_of r
    obtain ⟨a, us, rfl, q, rr⟩ := rep_tup r1
    exact ⟨a, us, rfl, .inr ⟨q.seq, ql_here h s r1⟩⟩
  · obtain ⟨v, rfl, r1⟩ := one_of r
    obtain ⟨ys, e, h⟩ := opt_ex h
    obtain ⟨a, us, rfl, q, rr⟩ := lstOf_ln s r1 e
    exact ⟨a, us, rfl, .inl ⟨q, ql_newT s rr h⟩⟩
  · exact h.elim
theorem aList_mono : MonA aList := ⟨fun xs μ Q Q' hq h => by
  unfold aList at h ⊢
  split at h
  · exact opt_mono (fun n k p z => hq _ _ (k p z)) h
  · exact h⟩
theorem aList_ln : LnA K (fun xs H Q => ∃ p ys, xs = [.ref p] ∧ (SqL K H p ys ∨ SqT K H p ys) ∧ ∀ l, H l = none → Q (.ref l) (upd H l (.lst ys))) aList := fun xs μ vs H Q s r h => by
  unfold aList at h
  split at h
  · obtain ⟨v, rfl, r1⟩ := one_of r
    obtain ⟨ys, e, h⟩ := opt_ex h
    obtain ⟨a, us, rfl, q, rr⟩ := seqOf_ln s r1 e
    exact ⟨a, us, rfl, q, ql_newL s rr h⟩
  · exact h.elim
theorem intsOf_eq : ∀ {xs : List D} {ns : List Int}, intsOf xs = some ns → xs = ns.map D.int
  | [], ns, e => by cases e; rfl
  | x :: r, ns, e => by
    cases x with
    | int i =>
      simp only [intsOf] at e
      cases q : intsOf r with
      | none => rw [q] at e; cases e
      | some ms =>
        rw [q] at e
        cases e
        rw [intsOf_eq q]
        rfl
    | _ => simp [intsOf] at e
theorem intSeq_ln {H : Hp} {x : D} {μ : Sto} {v : V} {ns : List Int} (s : StR K H μ) (r : Rep K H x v) (e : intSeq x μ = some ns) : ∃ a, v = .ref a ∧ (SqL K H a (ns.map V.int) ∨ SqT K H a (ns.map V.int)) := by
  unfold intSeq at e
  cases q : seqOf x μ with
  | none => rw [q] at e; cases e
  | some xs =>
    rw [q] at e
    have e2 := intsOf_eq (show intsOf xs = some ns from e)
    obtain ⟨a, vs, ev, h1, rr⟩ := seqOf_ln s r q
    rw [e2] at rr
    rw [repl_ints rr] at h1
    exact ⟨a, ev, h1⟩
end

/-! ### sum, max, min of a tuple -/
section
variable {prog : Program} {w : World} {A : Around} {E : Value → Shared → Prop} {s : Shared} {l : Addr} {its : List Value} {ns : List Int} {Q : Value → Shared → Prop}
theorem iter_tupI {Q : Value → Shared → Prop} {vs : Array Value} (hl : s.heap.IsTuple l vs)
    (h : ∀ s2 : Shared, s2 = { s with heap := s.heap.push { cls := .type "tuple_iterator", data := .fields #[.ref l, .int 0 0] } } →
      (s2.heap.IsTupleIter s.heap.objs.size l 0 ∧ s2.heap.IsTuple l vs) → (∀ b ∈ [s.heap.objs.size, l], b < s2.heap.objs.size) → l ≠ s.heap.objs.size → Q (.ref s.heap.objs.size) s2) : wpAny (model prog w) A (pyIter (.ref l)) Q E s := by
  have hlt : l < s.heap.objs.size := by obtain ⟨_, e, _⟩ := hl; exact Heap.lt_size e
  refine wpAny_pyIter_tuple hl (h _ rfl ⟨⟨_, Heap.get?_push_size _ rfl, rfl, rfl⟩, hl.push _⟩ (fun b hb => ?_) (Nat.ne_of_lt hlt))
  show b < (s.heap.push _).objs.size
  rw [Heap.size_push]
  have e : b = s.heap.objs.size ∨ b = l := by simpa using hb
  rcases e with e | e
  · rw [e]
    exact Nat.lt_succ_self _
  · rw [e]
    exact Nat.lt_succ_of_lt hlt
theorem kept_tupI {h' : Heap} (hk : ∀ b o, b ∉ [s.heap.objs.size] → (s.heap.push { cls := .type "tuple_iterator", data := .fields #[.ref l, .int 0 0] }).get? b = some o → h'.get? b = some o) :
    ∀ b o, s.heap.get? b = some o → h'.get? b = some o := fun b o e =>
  hk b o (fun hm => absurd (List.mem_singleton.mp hm ▸ Heap.lt_size e) (Nat.lt_irrefl _)) (Heap.get?_push_of_some _ e)
theorem sum_tup (hh : A.handled = none) (hl : s.heap.IsTuple l its.toArray) (hi : IntsAre its ns)
    (h : ∀ h' tk t', (∀ b o, s.heap.get? b = some o → h'.get? b = some o) → Q (.int ns.sum t') { s with heap := h', toks := tk }) : wpAny (model prog w) A (call (.builtin "sum") [.ref l]) Q E s := by
  obtain ⟨xs, e⟩ := hi.allInts.items
  have hn : numsOf (intItems xs).toList = ns := by rw [← e]; exact hi.numsOf
  rw [nums_intItems] at hn
  rw [e] at hl
  refine call_sum_walkG (iter_tupI hl fun s2 e2 st hfp ne => ?_)
  subst e2
  refine ⟨_, _, _, _, _, _, numAt xs, rfl, Walks.tuple (A := A.in1) hh _ l ne (intItems xs), st, hfp, (fun _ _ => intItems_at), fun h' tk t' hk => ?_⟩
  have q := h h' tk t' (kept_tupI hk)
  have e3 : preSum (numAt xs) (intItems xs).size = ns.sum := by
    rw [preSum_eq, List.take_of_length_le (by simp [intItems]), hn]
  rw [e3]
  exact q
theorem max_tup (hh : A.handled = none) (hl : s.heap.IsTuple l its.toArray) (hi : IntsAre its ns) (hne : 0 < ns.length)
    (h : ∀ h' tk M t', (∀ b o, s.heap.get? b = some o → h'.get? b = some o) → M ∈ ns → (∀ a, a ∈ ns → a ≤ M) → Q (.int M t') { s with heap := h', toks := tk }) : wpAny (model prog w) A (call (.builtin "max") [.ref l]) Q E s := by
  obtain ⟨xs, e⟩ := hi.allInts.items
  have hn : numsOf (intItems xs).toList = ns := by rw [← e]; exact hi.numsOf
  rw [nums_intItems] at hn
  subst hn
  rw [e] at hl
  have hsz : 0 < xs.size := by simpa using hne
  refine call_max_walk (iter_tupI hl fun s2 e2 st hfp ne => ?_)
  subst e2
  refine ⟨_, _, _, _, _, _, _, rfl, Walks.tuple (A := A.in1) hh _ l ne (intItems xs), st, hfp, by simpa [intItems] using hne, CmpOf.ints_gt (numAt xs) (fun _ _ => intItems_at), fun v h' tk hP hk => ?_⟩
  have es : (intItems xs).size = xs.size := by simp [intItems]
  rw [es] at hP
  obtain ⟨t, rfl⟩ := intItems_at hP
  obtain ⟨h1, h2⟩ := argBest_gt (numAt xs) (xs.size - 1)
  refine h h' tk _ t (kept_tupI hk) ?_ fun a ha => ?_
  · rw [numAt_eq]; exact PySem.getD_mem (by rw [List.length_map, Array.length_toList]; omega)
  · obtain ⟨j, hj, rfl⟩ := mem_getD ha
    rw [List.length_map, Array.length_toList] at hj
    rw [← numAt_eq]; exact h2 j (by omega)
theorem min_tup (hh : A.handled = none) (hl : s.heap.IsTuple l its.toArray) (hi : IntsAre its ns) (hne : 0 < ns.length)
    (h : ∀ h' tk M t', (∀ b o, s.heap.get? b = some o → h'.get? b = some o) → M ∈ ns → (∀ a, a ∈ ns → M ≤ a) → Q (.int M t') { s with heap := h', toks := tk }) : wpAny (model prog w) A (call (.builtin "min") [.ref l]) Q E s := by
  obtain ⟨xs, e⟩ := hi.allInts.items
  have hn : numsOf (intItems xs).toList = ns := by rw [← e]; exact hi.numsOf
  rw [nums_intItems] at hn
  subst hn
  rw [e] at hl
  have hsz : 0 < xs.size := by simpa using hne
  refine call_min_walk (iter_tupI hl fun s2 e2 st hfp ne => ?_)
  subst e2
  refine ⟨_, _, _, _, _, _, _, rfl, Walks.tuple (A := A.in1) hh _ l ne (intItems xs), st, hfp, by simpa [intItems] using hne, CmpOf.ints_lt (numAt xs) (fun _ _ => intItems_at), fun v h' tk hP hk => ?_⟩
  have es : (intItems xs).size = xs.size := by simp [intItems]
  rw [es] at hP
  obtain ⟨t, rfl⟩ := intItems_at hP
  obtain ⟨h1, h2⟩ := argBest_lt (numAt xs) (xs.size - 1)
  refine h h' tk _ t (kept_tupI hk) ?_ fun a ha => ?_
  · rw [numAt_eq]; exact PySem.getD_mem (by rw [List.length_map, Array.length_toList]; omega)
  · obtain ⟨j, hj, rfl⟩ := mem_getD ha
    rw [List.length_map, Array.length_toList] at hj
    rw [← numAt_eq]; exact h2 j (by omega)
end
section
variable {X : Cx}
def rSumT (K : PySem.W.Frag) : List V → Hp → VK → Prop := fun vs H Q => ∃ (a : Addr) (ns : List Int), vs = [V.ref a] ∧ SqT K H a (ns.map V.int) ∧ Q (.int ns.sum) H
def rMaxT (K : PySem.W.Frag) : List V → Hp → VK → Prop := fun vs H Q => ∃ (a : Addr) (ns : List Int), vs = [V.ref a] ∧ SqT K H a (ns.map V.int) ∧ 0 < ns.length ∧ ∀ m, m ∈ ns → (∀ y, y ∈ ns → y ≤ m) → Q (.int m) H
def rMinT (K : PySem.W.Frag) : List V → Hp → VK → Prop := fun vs H Q => ∃ (a : Addr) (ns : List Int), vs = [V.ref a] ∧ SqT K H a (ns.map V.int) ∧ 0 < ns.length ∧ ∀ m, m ∈ ns → (∀ y, y ∈ ns → m ≤ y) → Q (.int m) H
theorem cr_sumT (hc : X.calm = true) : CallR X (.builtin "sum") (rSumT X.K) := by
  intro pins s σ H vs us Q I r h
  obtain ⟨a, ns, rfl, hs, q⟩ := h
  obtain ⟨its, rv, ht, _⟩ := I.tuple hs
  rw [Vals.ref1 r]
  exact sum_tup (I.ok.hd hc) ht rv.ints fun h' tk t' hk => ⟨.int _, H, I.kept hk, ⟨_, rfl⟩, q⟩
theorem cr_maxT (hc : X.calm = true) : CallR X (.builtin "max") (rMaxT X.K) := by
  intro pins s σ H vs us Q I r h
  obtain ⟨a, ns, rfl, hs, hne, q⟩ := h
  obtain ⟨its, rv, ht, _⟩ := I.tuple hs
  rw [Vals.ref1 r]
  exact max_tup (I.ok.hd hc) ht rv.ints hne fun h' tk m t' hk h1 h2 => ⟨.int _, H, I.kept hk, ⟨_, rfl⟩, q m h1 h2⟩
theorem cr_minT (hc : X.calm = true) : CallR X (.builtin "min") (rMinT X.K) := by
  intro pins s σ H vs us Q I r h
  obtain ⟨a, ns, rfl, hs, hne, q⟩ := h
  obtain ⟨its, rv, ht, _⟩ := I.tuple hs
  rw [Vals.ref1 r]
  exact min_tup (I.ok.hd hc) ht rv.ints hne fun h' tk m t' hk h1 h2 => ⟨.int _, H, I.kept hk, ⟨_, rfl⟩, q m h1 h2⟩
end
end PD
set_option Elab.async false
set_option linter.all false
set_option maxRecDepth 100000
set_option maxHeartbeats 4000000
namespace PD
open PySem PySem.Spec PyProof.Rows L2

section
variable {K : PySem.W.Frag}
theorem aSum_mono : MonA aSum := ⟨fun xs μ Q Q' hq h => by
  unfold aSum at h ⊢
  split at h
  · exact opt_mono (fun n k => hq _ _ k) h
  · exact h⟩
theorem aSum_ln : LnA K (fun vs H Q => rSum K vs H Q ∨ rSumT K vs H Q) aSum := fun xs μ vs H Q s r h => by
  unfold aSum at h
  split at h
  · obtain ⟨v, rfl, r1⟩ := one_of r
    obtain ⟨ns, e, h⟩ := opt_ex h
    obtain ⟨a, rfl, q⟩ := intSeq_ln s r1 e
    rcases q with q | q
    · exact .inl ⟨a, ns, rfl, q, ql_here h s mk_int⟩
    · exact .inr ⟨a, ns, rfl, q, ql_here h s mk_int⟩
  · exact h.elim
theorem aMax_mono : MonA aMax := ⟨fun xs μ Q Q' hq h => by
  unfold aMax at h ⊢
  split at h
  · exact opt_mono (fun n k => ⟨k.1, fun m h1 h2 => hq _ _ (k.2 m h1 h2)⟩) h
  · exact hq _ _ h
  · exact h⟩
def rMax2 : List V → Hp → VK → Prop := fun xs H Q => ∃ i j, xs = [.int i, .int j] ∧ Q (.int (if j > i then j else i)) H
def rMin2 : List V → Hp → VK → Prop := fun xs H Q => ∃ i j, xs = [.int i, .int j] ∧ Q (.int (if j < i then j else i)) H
theorem aMax_ln : LnA K (fun vs H Q => rMax K vs H Q ∨ rMaxT K vs H Q ∨ rMax2 vs H Q) aMax := fun xs μ vs H Q s r h => by
  unfold aMax at h
  split at h
  · obtain ⟨v, rfl, r1⟩ := one_of r
    obtain ⟨ns, e, h⟩ := opt_ex h
    obtain ⟨a, rfl, q⟩ := intSeq_ln s r1 e
    rcases q with q | q
    · exact .inl ⟨a, ns, rfl, q, h.1, fun m h1 h2 => ql_here (h.2 m h1 h2) s mk_int⟩
    · exact .inr (.inl ⟨a, ns, rfl, q, h.1, fun m h1 h2 => ql_here (h.2 m h1 h2) s mk_int⟩)
  · obtain ⟨v, u, rfl, r1, r2⟩ := two_of r
    obtain rfl := rep_int r1
    obtain rfl := rep_int r2
    exact .inr (.inr ⟨_, _, rfl, ql_here h s mk_int⟩)
  · exact h.elim
theorem aMin_mono : MonA aMin := ⟨fun xs μ Q Q' hq h => by
  unfold aMin at h ⊢
  split at h
  · exact opt_mono (fun n k => ⟨k.1, fun m h1 h2 => hq _ _ (k.2 m h1 h2)⟩) h
  · exact hq _ _ h
  · exact h⟩
theorem aMin_ln : LnA K (fun vs H Q => rMin K vs H Q ∨ rMinT K vs H Q ∨ rMin2 vs H Q) aMin := fun xs μ vs H Q s r h => by
  unfold aMin at h
  split at h
  · obtain ⟨v, rfl, r1⟩ := one_of r
    obtain ⟨ns, e, h⟩ := opt_ex h
    obtain ⟨a, rfl, q⟩ := intSeq_ln s r1 e
    rcases q with q | q
    · exact .inl ⟨a, ns, rfl, q, h.1, fun m h1 h2 => ql_here (h.2 m h1 h2) s mk_int⟩
    · exact .inr (.inl ⟨a, ns, rfl, q, h.1, fun m h1 h2 => ql_here (h.2 m h1 h2) s mk_int⟩)
  · obtain ⟨v, u, rfl, r1, r2⟩ := two_of r
    obtain rfl := rep_int r1
    obtain rfl := rep_int r2
    exact .inr (.inr ⟨_, _, rfl, ql_here h s mk_int⟩)
  · exact h.elim
theorem aGcd_mono : MonA aGcd := ⟨fun xs μ Q Q' hq h => by
  unfold aGcd at h ⊢
  split at h <;> first | exact hq _ _ h | exact h⟩
theorem aGcd_ln : LnA K rGcd aGcd := fun xs μ vs H Q s r h => by
  unfold aGcd at h
  split at h
  · obtain ⟨v, u, rfl, r1, r2⟩ := two_of r
    obtain rfl := rep_int r1
    obtain rfl := rep_int r2
    exact ⟨_, _, rfl, ql_here h s mk_int⟩
  · exact h.elim
end
/-- a built-in function's machine rule with what the data asks -/
structure CallK (X : Cx) (f : Value) (g : UA) : Prop where
  ex : ∃ r, CallR X f r ∧ LnA X.K r g
  mono : MonA g
section
variable {X : Cx} {W : WX} {a : Expr} {es : List Expr} {tr : DA} {ta : DE} {pos p : Pos} {x : Str}
theorem ca_len : CallK X (.builtin "len") aLen := ⟨⟨_, call_lenAll, aLen_ln⟩, aLen_mono⟩
theorem ca_int : CallK X (.type "int") aInt := ⟨⟨_, call_int1, aInt_ln⟩, aInt_mono⟩
theorem ca_abs : CallK X (.builtin "abs") aAbs := ⟨⟨_, call_abs, aAbs_ln⟩, aAbs_mono⟩
theorem ca_tuple : CallK X (.type "tuple") aTuple := ⟨⟨_, call_tupN, aTuple_ln⟩, aTuple_mono⟩
theorem ca_list : CallK X (.type "list") aList := ⟨⟨_, call_list_of, aList_ln⟩, aList_mono⟩
theorem ca_sum (hc : X.calm = true) : CallK X (.builtin "sum") aSum := ⟨⟨_, (cr_sum hc).or (cr_sumT hc), aSum_ln⟩, aSum_mono⟩
theorem ca_max (hc : X.calm = true) : CallK X (.builtin "max") aMax := ⟨⟨_, (cr_max hc).or ((cr_maxT hc).or (call_max2 hc)), aMax_ln⟩, aMax_mono⟩
theorem ca_min (hc : X.calm = true) : CallK X (.builtin "min") aMin := ⟨⟨_, (cr_min hc).or ((cr_minT hc).or (call_min2 hc)), aMin_ln⟩, aMin_mono⟩
theorem ca_gcd : CallK X (.builtin "math.gcd") aGcd := ⟨⟨_, cr_gcd, aGcd_ln⟩, aGcd_mono⟩
theorem de_ca {id : String} {g : UA} (c : CallK X (.builtin id) g) (hg : Gl X x) (hm : X.mg x = none) (hv : bootBuiltins x = some (.builtin id)) (ha : PDA X W (a :: es) tr)
    (hn : x ≠ "__name__" := by decide) (hdb : (x == ("__debug__" : Str)) = false := by decide)
    (he : starEach (a :: es) X.env = (false, eval a X.env) :: starEach es X.env := by rfl) (hpl : (backTo pos (starEach es X.env)).any (·.1) = false := by rfl) : PDE X W (.Call (.Name x p) (a :: es) [] pos) (dArgs g tr) :=
  let ⟨_, h, l⟩ := c.ex
  de_callB h c.mono l hg hm hv ha hn hdb he hpl
theorem de_caT {T : String} {g : UA} (c : CallK X (.type T) g) (hg : Gl X x) (hm : X.mg x = none) (hv : bootBuiltins x = some (.type T)) (ha : PDA X W (a :: es) tr)
    (hn : x ≠ "__name__" := by decide) (hdb : (x == ("__debug__" : Str)) = false := by decide)
    (he : starEach (a :: es) X.env = (false, eval a X.env) :: starEach es X.env := by rfl) (hpl : (backTo pos (starEach es X.env)).any (·.1) = false := by rfl) : PDE X W (.Call (.Name x p) (a :: es) [] pos) (dArgs g tr) :=
  let ⟨_, h, l⟩ := c.ex
  de_callTy h c.mono l hg hm hv ha hn hdb he hpl
theorem de_caM {id : String} {g : UA} (c : CallK X (.builtin id) g) (hg : Gl X x) (hm : X.mg x = some (.builtin id)) (ha : PDA X W (a :: es) tr) (hdb : (x == ("__debug__" : Str)) = false := by decide)
    (he : starEach (a :: es) X.env = (false, eval a X.env) :: starEach es X.env := by rfl) (hpl : (backTo pos (starEach es X.env)).any (·.1) = false := by rfl) : PDE X W (.Call (.Name x p) (a :: es) [] pos) (dArgs g tr) :=
  let ⟨_, h, l⟩ := c.ex
  de_callBfun h c.mono l hg hm ha hdb he hpl

/-! ### isinstance -/
def tyS : Ty → String
  | .tint => "int"
  | .tbool => "bool"
  | .tstr => "str"
  | .ttuple => "tuple"
  | .tlist => "list"
theorem kit_all : ∀ (T : Ty), kitB "NoneType" (tyS T) = some (isTy T .non) ∧ kitB "bool" (tyS T) = some (isTy T (.bl true)) ∧ kitB "int" (tyS T) = some (isTy T (.int 0)) ∧ kitB "str" (tyS T) = some (isTy T (.str "")) ∧
    kitB "tuple" (tyS T) = some (isTy T (.tup [])) ∧ kitB "list" (tyS T) = some (isTy T (.rol [])) := by
  intro T
  cases T <;> decide +kernel
theorem ty_tup {K : PySem.W.Frag} {H : Hp} {a : Addr} {vs : List V} (q : SqT K H a vs) : TyX K H (.ref a) (.type "tuple") := by
  rcases q with (q | ⟨o, q⟩) | ⟨o, its, n, q, hc, _⟩
  · exact .base (.tup q)
  · exact .fTuple q
  · exact .kTuple q hc
theorem isi_ln {K : PySem.W.Frag} {H : Hp} {x : D} {μ : Sto} {v : V} (T : Ty) (s : StR K H μ) (r : Rep K H x v) (hl : isiOk x μ) : ∃ t, TyX K H v (.type t) ∧ kitB t (tyS T) = some (isTy T x) := by
  obtain ⟨k1, k2, k3, k4, k5, k6⟩ := kit_all T
  cases x with
  | non => rw [rep_non r]; exact ⟨_, .base .non, k1⟩
  | bl b => rw [rep_bl r]; exact ⟨_, .base (.bl b), by rw [k2]; cases T <;> rfl⟩
  | int i => rw [rep_int r]; exact ⟨_, .base (.int i), by rw [k3]; cases T <;> rfl⟩
  | str z => rw [rep_str r]; exact ⟨_, .base (.str z), by rw [k4]; cases T <;> rfl⟩
  | tup xs =>
    obtain ⟨a, vs, rfl, q, _⟩ := rep_tup r
    exact ⟨"tuple", ty_tup q.seq, by rw [k5]; cases T <;> rfl⟩
  | wtup xs =>
    obtain ⟨a, vs, rfl, q, _⟩ := rep_wtup r
    exact ⟨"tuple", ty_tup q, by rw [k5]; cases T <;> rfl⟩
  | rol xs =>
    obtain ⟨a, vs, rfl, q, _⟩ := rep_rol r
    refine ⟨"list", ?_, by rw [k6]; cases T <;> rfl⟩
    rcases q with ⟨o, q⟩ | ⟨o, its, n, q, hc, _⟩
    · exact .base (.frz q)
    · exact .kList q hc
  | loc p =>
    obtain ⟨xs, e⟩ := Option.isSome_iff_exists.mp (show (lstAt μ p).isSome = true from hl)
    obtain ⟨vs, h1, _⟩ := s.lst e
    obtain rfl := rep_loc r
    exact ⟨"list", .base (.lst h1), by rw [k6]; cases T <;> rfl⟩
  | exv a d ns xs => exact False.elim hl
theorem de_isi {y : Str} {p2 : Pos} (T : Ty) (hg : Gl X "isinstance") (hm : X.mg "isinstance" = none) (hgT : Gl X y) (hmT : X.mg y = none) (hvT : bootBuiltins y = some (.type (tyS T))) (ha : PDE X W a ta)
    (s1 : starEach [a, .Name y p2] X.env = (false, eval a X.env) :: starEach [.Name y p2] X.env := by rfl) (s2 : starEach [.Name y p2] X.env = (false, eval (.Name y p2) X.env) :: starEach [] X.env := by rfl)
    (hpl : (backTo pos (starEach [.Name y p2] X.env)).any (·.1) = false := by rfl) (hn : y ≠ "__name__" := by decide) (hd : (y == ("__debug__" : Str)) = false := by decide) :
    PDE X W (.Call (.Name "isinstance" p) [a, .Name y p2] [] pos) (dIsi T ta) where
  mono := fun ρ μ Q Q' E E' hq hx h => ha.mono ρ μ _ _ _ _ (fun x μ1 k => ⟨k.1, hq _ _ k.2⟩) hx h
  run := PE_imp (pe_callB call_isi hg hm (by decide +kernel) (pa_cons ha.run (pa_cons (pe_bltn (v := .ty (tyS T)) hgT hmT hvT rfl hn hd) pa_nil s2) s1) (by decide) (by decide) s1 hpl) fun σ H Q ⟨ρ, μ, he, hs, h⟩ =>
    ⟨ρ, μ, he, hs, ha.mono ρ μ _ _ _ _ (fun x μ1 k v H1 t1 s1 r1 => by
      obtain ⟨t, h1, h2⟩ := isi_ln T s1 r1 k.1
      exact ⟨v, .ty (tyS T), .type t, .type (tyS T), isTy T x, rfl, .ty _, h1, kit_ty h2, k.2 _ H1 t1 s1 mk_bl⟩) (fun _ _ z => z) h⟩

/-! ### methods of lists -/
def mtyS : MTy → String
  | .list => "list"
  | .str => "str"
theorem tyM_ln {K : PySem.W.Frag} {H : Hp} {T : MTy} {x : D} {μ : Sto} {v : V} (s : StR K H μ) (r : Rep K H x v) (h : tyM T x μ) : tyV K (mtyS T) v H := by
  unfold tyM at h
  split at h
  · obtain ⟨xs, e⟩ := Option.isSome_iff_exists.mp h
    obtain ⟨vs, h1, _⟩ := s.lst e
    obtain rfl := rep_loc r
    exact .inl ⟨rfl, vs, .of h1⟩
  · obtain ⟨a, vs, rfl, q, _⟩ := rep_rol r
    exact .inl ⟨rfl, vs, q.seq⟩
  · obtain rfl := rep_str r
    rfl
  · exact h.elim
structure MetK (X : Cx) (id : String) (g : D → UA) : Prop where
  ex : ∃ r, MtR X id r ∧ ∀ x xs μ (v : V) (vs : List V) (H : Hp) (Q : VK), StR X.K H μ → Rep X.K H x v → RepL X.K H xs vs → g x xs μ (QL X.K H Q) → r v vs H Q
  mono : ∀ x xs μ Q Q', (∀ d μ', Q d μ' → Q' d μ') → g x xs μ Q → g x xs μ Q'
variable {o : Expr} {to : DE} {name : Str} {apos : Pos} {id : String} {g : D → UA}
theorem de_meth0 {T : MTy} (k : MetK X id g) (pa : PlainAttrs (mtyS T)) (slot : Slot (mtyS T) name id) (hty : typeOf (.builtin id) = pure (.type "method_descriptor")) (ho : PDE X W o to)
    (hbase : attributeBase o name X.env (eval o X.env) = eval o X.env := by rfl) (hline : (apos.endLine == pos.line) = true := by rfl) : PDE X W (.Call (.Attribute o name apos) [] [] pos) (dMeth0 T g to) :=
  let ⟨r, hm, l⟩ := k.ex
  { mono := fun ρ μ Q Q' E E' hq hx h => ho.mono ρ μ _ _ _ _ (fun x μ1 z => ⟨z.1, k.mono _ _ _ _ _ hq z.2⟩) hx h
    run := PE_imp (pe_bm0 pa slot hty hm ho.run hbase hline) fun σ H Q ⟨ρ, μ, he, hs, h⟩ => ⟨ρ, μ, he, hs, ho.mono ρ μ _ _ _ _ (fun x μ1 z v H1 t1 s1 r1 =>
      ⟨tyM_ln s1 r1 z.1, l _ _ _ _ _ _ _ s1 r1 mk_nil (k.mono _ _ _ _ _ (fun _ _ q => QL.later t1 q) z.2)⟩) (fun _ _ z => z) h⟩ }
theorem de_meth {T : MTy} (k : MetK X id g) (pa : PlainAttrs (mtyS T)) (slot : Slot (mtyS T) name id) (hty : typeOf (.builtin id) = pure (.type "method_descriptor")) (ho : PDE X W o to) (ha : PDA X W (a :: es) tr)
    (hbase : attributeBase o name X.env (eval o X.env) = eval o X.env := by rfl)
    (hfew : ((backTo pos (starEach (a :: es) X.env)).all (fun x => !x.1) && (backToKw pos (keywordEach [] X.env)).all (fun x => x.1.isSome)
      && decide ((a :: es).length + ([] : List Keyword).length + (if ([] : List Keyword).isEmpty then 0 else 1) < 30)) = true := by rfl)
    (hline : (apos.endLine == pos.line) = true := by rfl) (hs : starEach (a :: es) X.env = (false, eval a X.env) :: starEach es X.env := by rfl) (hpl : (backTo pos (starEach es X.env)).any (·.1) = false := by rfl) :
    PDE X W (.Call (.Attribute o name apos) (a :: es) [] pos) (dMeth T g to tr) :=
  let ⟨r, hm, l⟩ := k.ex
  { mono := fun ρ μ Q Q' E E' hq hx h => ho.mono ρ μ _ _ _ _ (fun x μ1 z => ⟨z.1, ha.mono ρ μ1 _ _ _ _ (fun xs μ2 z2 => k.mono _ _ _ _ _ hq z2) hx z.2⟩) hx h
    run := PE_imp (pe_bm pa slot hty hm ho.run ha.run hbase hfew hline hs hpl) fun σ H Q ⟨ρ, μ, he, hs, h⟩ => ⟨ρ, μ, he, hs, ho.mono ρ μ _ _ _ _ (fun x μ1 z v H1 t1 s1 r1 =>
      ⟨tyM_ln s1 r1 z.1, ρ, μ1, he.tp t1, s1, ha.mono ρ μ1 _ _ _ _ (fun xs μ2 z2 vs H2 t2 s2 r2 =>
        l _ _ _ _ _ _ _ s2 (r1.tp t2) r2 (k.mono _ _ _ _ _ (fun _ _ q => QL.later (t1.trans t2) q) z2)) (fun _ _ q => XL.later t1 q) z.2⟩) (fun _ _ z => z) h⟩ }
theorem mk_append : MetK X "list.append" mAppend where
  ex := ⟨_, mt_append, fun x xs μ v vs H Q s rx rl h => by
    unfold mAppend at h
    split at h
    · rename_i p y
      obtain rfl := rep_loc rx
      obtain ⟨u, rfl, ru⟩ := one_of rl
      obtain ⟨ys, e, h⟩ := opt_ex h
      obtain ⟨ws, h1, rr⟩ := s.lst e
      exact ⟨p, ws, u, rfl, rfl, h1, by rw [← rr.len]; exact line_lt h.1, h.2 _ _ (.lst h1) (s.setL h1 (rr.app (mk_cons ru mk_nil))) mk_non⟩
    · exact h.elim⟩
  mono := fun x xs μ Q Q' hq h => by
    unfold mAppend at h ⊢
    split at h
    · exact opt_mono (fun xs k => ⟨k.1, hq _ _ k.2⟩) h
    · exact h
theorem RepL.dropLast {K : PySem.W.Frag} {H : Hp} : ∀ {ds : List D} {vs : List V}, RepL K H ds vs → RepL K H ds.dropLast vs.dropLast := fun {ds vs} h => by
  rw [List.dropLast_eq_take, List.dropLast_eq_take, h.len]
  exact h.take _
theorem RepL.erase {K : PySem.W.Frag} {H : Hp} : ∀ {ds : List D} {vs : List V} (i : Nat), RepL K H ds vs → RepL K H (ds.eraseIdx i) (vs.eraseIdx i)
  | [], _, _, h => by rw [repl_nil h]; exact mk_nil
  | _ :: _, _, 0, h => by
    obtain ⟨w, r, ev, p, s⟩ := repl_cons h
    subst ev
    exact s
  | _ :: _, _, i + 1, h => by
    obtain ⟨w, r, ev, p, s⟩ := repl_cons h
    subst ev
    exact mk_cons p (RepL.erase i s)
theorem mk_pop : MetK X "list.pop" mPop where
  ex := ⟨_, MtR.or mt_pop mt_popAt, fun x xs μ v vs H Q s rx rl h => by
    unfold mPop at h
    split at h
    · rename_i p
      obtain rfl := rep_loc rx
      obtain rfl := repl_nil rl
      obtain ⟨ys, e, h⟩ := opt_ex h
      obtain ⟨ws, h1, rr⟩ := s.lst e
      obtain ⟨y, ey, h⟩ := opt_ex h
      obtain ⟨u, eu, ru⟩ := rr.get ey
      exact .inl ⟨p, ws, u, rfl, rfl, h1, by rw [← rr.len]; exact eu, h _ _ (.lst h1) (s.setL h1 rr.dropLast) (ru.tp (.lst h1))⟩
    · rename_i p i
      obtain rfl := rep_loc rx
      obtain ⟨u, rfl, ru⟩ := one_of rl
      obtain rfl := rep_int ru
      obtain ⟨ys, e, h⟩ := opt_ex h
      · obtain ⟨ws, h1, rr⟩ := s.lst e
        obtain ⟨j, ej, h2⟩ := opt_ex h.2
        obtain ⟨y, ey, h3⟩ := opt_ex h2
        obtain ⟨u, eu, ru⟩ := rr.get ey
        obtain ⟨k1, k2, k3, k4⟩ := ixN_seq (show L2.ixN ys.length i = some j from ej)
        exact .inr ⟨p, ws, i, j, u, rfl, rfl, h1, h.1.1, h.1.2, by rw [← rr.len]; exact k1, eu, h3 _ _ (.lst h1) (s.setL h1 (rr.erase j)) (ru.tp (.lst h1))⟩
    · exact h.elim⟩
  mono := fun x xs μ Q Q' hq h => by
    unfold mPop at h ⊢
    split at h
    · exact opt_mono (fun xs z => opt_mono (fun y k => hq _ _ k) z) h
    · exact opt_mono (fun xs z => ⟨z.1, opt_mono (fun j k => opt_mono (fun y k2 => hq _ _ k2) k) z.2⟩) h
    · exact h
theorem de_append (ho : PDE X W o to) (ha : PDE X W a ta)
    (hbase : attributeBase o "append" X.env (eval o X.env) = eval o X.env := by rfl)
    (hfew : ((backTo pos (starEach [a] X.env)).all (fun x => !x.1) && (backToKw pos (keywordEach [] X.env)).all (fun x => x.1.isSome)
      && decide ([a].length + ([] : List Keyword).length + (if ([] : List Keyword).isEmpty then 0 else 1) < 30)) = true := by rfl)
    (hline : (apos.endLine == pos.line) = true := by rfl) (hs : starEach [a] X.env = (false, eval a X.env) :: starEach [] X.env := by rfl) (hpl : (backTo pos (starEach [] X.env)).any (·.1) = false := by rfl) :
    PDE X W (.Call (.Attribute o "append" apos) [a] [] pos) (dMeth .list mAppend to (dCons ta dNil)) :=
  de_meth (T := .list) mk_append PySem.F.plainAttrs_list PySem.F.slot_list_append PySem.F.type_list_append ho (da_cons ha da_nil hs) hbase hfew hline hs hpl
theorem de_pop0 (ho : PDE X W o to) (hbase : attributeBase o "pop" X.env (eval o X.env) = eval o X.env := by rfl) (hline : (apos.endLine == pos.line) = true := by rfl) :
    PDE X W (.Call (.Attribute o "pop" apos) [] [] pos) (dMeth0 .list mPop to) :=
  de_meth0 (T := .list) mk_pop PySem.F.plainAttrs_list PySem.F.slot_list_pop PySem.F.type_list_pop ho hbase hline
theorem de_pop1 (ho : PDE X W o to) (ha : PDE X W a ta)
    (hbase : attributeBase o "pop" X.env (eval o X.env) = eval o X.env := by rfl)
    (hfew : ((backTo pos (starEach [a] X.env)).all (fun x => !x.1) && (backToKw pos (keywordEach [] X.env)).all (fun x => x.1.isSome)
      && decide ([a].length + ([] : List Keyword).length + (if ([] : List Keyword).isEmpty then 0 else 1) < 30)) = true := by rfl)
    (hline : (apos.endLine == pos.line) = true := by rfl) (hs : starEach [a] X.env = (false, eval a X.env) :: starEach [] X.env := by rfl) (hpl : (backTo pos (starEach [] X.env)).any (·.1) = false := by rfl) :
    PDE X W (.Call (.Attribute o "pop" apos) [a] [] pos) (dMeth .list mPop to (dCons ta dNil)) :=
  de_meth (T := .list) mk_pop PySem.F.plainAttrs_list PySem.F.slot_list_pop PySem.F.type_list_pop ho (da_cons ha da_nil hs) hbase hfew hline hs hpl
end
end PD
set_option Elab.async false
set_option linter.all false
set_option maxRecDepth 100000
set_option maxHeartbeats 4000000
namespace PD
open PySem PySem.Spec PyProof.Rows L2

/-! ### the built-in names -/
theorem bb_len : bootBuiltins "len" = some (.builtin "len") := by decide +kernel
theorem bb_abs : bootBuiltins "abs" = some (.builtin "abs") := by decide +kernel
theorem bb_sum : bootBuiltins "sum" = some (.builtin "sum") := by decide +kernel
theorem bb_max : bootBuiltins "max" = some (.builtin "max") := by decide +kernel
theorem bb_min : bootBuiltins "min" = some (.builtin "min") := by decide +kernel
theorem bb_sorted : bootBuiltins "sorted" = some (.builtin "sorted") := by decide +kernel
theorem bb_int : bootBuiltins "int" = some (.type "int") := by decide +kernel
theorem bb_bool : bootBuiltins "bool" = some (.type "bool") := by decide +kernel
theorem bb_str : bootBuiltins "str" = some (.type "str") := by decide +kernel
theorem bb_tuple : bootBuiltins "tuple" = some (.type "tuple") := by decide +kernel
theorem bb_list : bootBuiltins "list" = some (.type "list") := by decide +kernel
theorem bb_set : bootBuiltins "set" = some (.type "set") := by decide +kernel

/-! ### x[::-1], int.bit_length -/
section
variable {K : PySem.W.Frag}
theorem RepL.reverse {H : Hp} : ∀ {ds : List D} {vs : List V}, RepL K H ds vs → RepL K H ds.reverse vs.reverse
  | [], _, h => by rw [repl_nil h]; exact mk_nil
  | d :: ds, _, h => by
    obtain ⟨v, w, e, r1, r2⟩ := repl_cons h
    rw [e, List.reverse_cons, List.reverse_cons]
    exact (RepL.reverse r2).app (mk_cons r1 mk_nil)
theorem de_rev {X : Cx} {W : WX} {e : Expr} {te : DE} {k : Nat} {p1 p2 p3 pos : Pos} (he : PDE X W e te) : PDE X W (.Subscript e (.Slice none none (some (.UnaryOp .USub (.Constant (.int 1) k p1) p2)) p3) pos) (d1 uRev te) where
  mono := fun ρ μ Q Q' E E' hq hx h => he.mono ρ μ _ _ _ _ (fun x μ1 z => opt_mono (fun xs k p n => hq _ _ (k p n)) z) hx h
  run := PE_imp (pe_revL he.run) fun σ H Q ⟨ρ, μ, en, hs, h⟩ => ⟨ρ, μ, en, hs, he.mono ρ μ _ _ _ _ (fun x μ1 z v H1 t1 s1 r1 => by
    obtain ⟨xs, e, z⟩ := opt_ex z
    obtain ⟨a, vs, rfl, q, rr⟩ := lstOf_ln s1 r1 e
    exact ⟨a, vs, rfl, q, fun p n => z p (s1.untold n) _ _ (t1.trans (.new n)) (s1.newL n rr.reverse) mk_loc⟩) (fun _ _ z => z) h⟩
theorem bits_eq (i : Int) : Builtin.Int.intBits i = bitsOf i := by
  unfold Builtin.Int.intBits bitsOf
  by_cases h : i = 0
  · subst h; rfl
  · have h' : ¬ (i == 0) = true := by simpa using h
    rw [if_neg h, if_neg h']
theorem de_bits {X : Cx} {W : WX} {o : Expr} {to : DE} {apos pos : Pos} (ho : PDE X W o to) (hbase : attributeBase o "bit_length" X.env (eval o X.env) = eval o X.env := by rfl) (hline : (apos.endLine == pos.line) = true := by rfl) : PDE X W (.Call (.Attribute o "bit_length" apos) [] [] pos) (d1 uBits to) where
  mono := fun ρ μ Q Q' E E' hq hx h => ho.mono ρ μ _ _ _ _ (fun x μ1 z => by
    unfold uBits at z ⊢
    split at z
    · exact hq _ _ z
    · exact z) hx h
  run := PE_imp (pe_bits ho.run hbase hline) fun σ H Q ⟨ρ, μ, en, hs, h⟩ => ⟨ρ, μ, en, hs, ho.mono ρ μ _ _ _ _ (fun x μ1 z v H1 t1 s1 r1 => by
    unfold uBits at z
    split at z
    · obtain rfl := rep_int r1
      exact ⟨_, rfl, by rw [bits_eq]; exact z _ H1 t1 s1 mk_int⟩
    · exact z.elim) (fun _ _ z => z) h⟩

/-! ### sorted -/
theorem lstInts_ln {H : Hp} {x : D} {μ : Sto} {v : V} {ns : List Int} (s : StR K H μ) (r : Rep K H x v) (e : lstInts x μ = some ns) : ∃ a, v = .ref a ∧ SqL K H a (ns.map V.int) := by
  unfold lstInts at e
  cases q : lstOf x μ with
  | none => rw [q] at e; cases e
  | some xs =>
    rw [q] at e
    obtain ⟨a, vs, ev, sq, rr⟩ := lstOf_ln s r q
    have e2 := intsOf_eq (show intsOf xs = some ns from e)
    subst e2
    rw [repl_ints rr] at sq
    exact ⟨a, ev, sq⟩
theorem aSorted_mono : MonA aSorted := ⟨fun xs μ Q Q' hq h => by
  unfold aSorted at h ⊢
  split at h
  · exact opt_mono (fun n k ns p h1 h2 h3 => hq _ _ (k ns p h1 h2 h3)) h
  · exact h⟩
theorem aSorted_ln : LnA K (rSortedI K) aSorted := fun xs μ vs H Q s r h => by
  unfold aSorted at h
  split at h
  · obtain ⟨v, rfl, r1⟩ := one_of r
    obtain ⟨ns, e, h⟩ := opt_ex h
    obtain ⟨a, rfl, q⟩ := lstInts_ln s r1 e
    exact ⟨a, ns, rfl, q, fun ns' p h1 h2 n => h ns' p h1 h2 (s.untold n) _ _ (.new n) (s.newL n (mk_ints ns')) mk_loc⟩
  · exact h.elim
theorem ca_sorted {X : Cx} : CallK X (.builtin "sorted") aSorted := ⟨⟨_, cr_sortedI, aSorted_ln⟩, aSorted_mono⟩
end

/-! ### sorted(set(t)), len(set(t)) -/
section
variable {X : Cx}
/-- sorted(set(t)): a new list of the numbers, ascending -/
def tSortSet (K : PySem.W.Frag) (ta : TE) : TE := fun σ H Q => ta σ H fun x H1 => ∃ (l : Addr) (ns : List Int), x = V.ref l ∧ SqT K H1 l (ns.map V.int) ∧ ns.length < 64 ∧
  ∀ (ns' : List Int) (p : Addr), ns'.Pairwise (· < ·) → (∀ k, k ∈ ns' ↔ k ∈ ns) → H1 p = none → Q (.ref p) (upd H1 p (.lst (ns'.map V.int)))
theorem pe_sortSet {a : Expr} {ta : TE} {p p2 q pos : Pos} (hc : X.calm = true) (hg : Gl X "sorted") (hm : X.mg "sorted" = none) (hg2 : Gl X "set") (hm2 : X.mg "set" = none) (ha : PE X a ta)
    (na : starEach [a] X.env = (false, eval a X.env) :: starEach [] X.env := by rfl) : PE X (.Call (.Name "sorted" p) [.Call (.Name "set" p2) [a] [] q] [] pos) (tSortSet X.K ta) := ⟨fun pins s σ H Q I h => by
  refine Call_ (ld_blt I hg hm bb_sorted (PyProof.Rows.callWith_builtin1 (PyProof.Rows.args_cons ?_ rfl) rfl rfl))
  refine Call_ (ld_blt I hg2 hm2 bb_set (PyProof.Rows.callWith_type1 (PyProof.Rows.args_cons (thn (ha.run pins s σ H _ I h) fun v s1 ⟨x, H1, I1, r1, q1⟩ => PyProof.Rows.args_nil ?_) na) na rfl))
  obtain ⟨l, ns, ex, hq, h64, q1⟩ := q1
  subst ex
  cases r1
  obtain ⟨its, r, pt, hz⟩ := I1.tuple hq
  have hi : IntsAre its.toArray.toList ns := ints_of_vals r
  refine call_set_tupI ns (I1.ok.hd hc) pt hi (by unfold scanBound; omega) fun h' tk c S hc2 hk => PyProof.Rows.args_nil ?_
  have I2 : Inv X pins σ H1 { s1 with heap := h', toks := tk } := I1.kept fun b o e => hk b o e
  refine sorted_set S (I1.ok.hd hc) (by omega) fun s' p out c' ns' k g o hp hgo hi' hs hmem hl => ?_
  have hlen : (ns'.map V.int).length ≤ sizeLine := by rw [List.length_map, hl, sizeLine_eq]; omega
  have hn : H1 p = none := I2.hok.fresh hp
  have J : Inv X pins σ (upd H1 p (.lst (ns'.map V.int))) { ({ s1 with heap := h', toks := tk } : Shared) with heap := s'.heap, gens := s'.gens, drawn := s'.drawn, toks := s'.toks } :=
    I2.call (ch := []) (Un.laid k hp hn) (I2.hok.laid k hp ⟨hlen, out.toList, c', vals_of_ints hi', hgo⟩) (by rw [g]; exact I2.bare) (fun _ z => nomatch z)
  obtain ⟨hp', g', d', tk', os'⟩ := s'
  cases o
  exact ⟨.ref p, _, J, rfl, q1 ns' p hs (fun k => by rw [hmem k]; simp) hn⟩⟩
/-- len(set(t)) -/
def tLenSetT (K : PySem.W.Frag) (ta : TE) : TE := fun σ H Q => ta σ H fun x H1 => ∃ (l : Addr) (ns : List Int), x = V.ref l ∧ SqT K H1 l (ns.map V.int) ∧ ns.length ≤ 4000 ∧
  ∀ ns' : List Int, ns'.Nodup → (∀ k, k ∈ ns' ↔ k ∈ ns) → Q (.int ns'.length) H1
theorem pe_lenSetT {a : Expr} {ta : TE} {p p2 q pos : Pos} (hc : X.calm = true) (hg : Gl X "len") (hm : X.mg "len" = none) (hg2 : Gl X "set") (hm2 : X.mg "set" = none) (ha : PE X a ta)
    (na : starEach [a] X.env = (false, eval a X.env) :: starEach [] X.env := by rfl) : PE X (.Call (.Name "len" p) [.Call (.Name "set" p2) [a] [] q] [] pos) (tLenSetT X.K ta) := ⟨fun pins s σ H Q I h => by
  refine Call_ (ld_blt I hg hm bb_len (PyProof.Rows.callWith_builtin1 (PyProof.Rows.args_cons ?_ rfl) rfl rfl))
  refine Call_ (ld_blt I hg2 hm2 bb_set (PyProof.Rows.callWith_type1 (PyProof.Rows.args_cons (thn (ha.run pins s σ H _ I h) fun v s1 ⟨x, H1, I1, r1, q1⟩ => PyProof.Rows.args_nil ?_) na) na rfl))
  obtain ⟨l, ns, ex, hq, h64, q1⟩ := q1
  subst ex
  cases r1
  obtain ⟨its, r, pt, hz⟩ := I1.tuple hq
  have hi : IntsAre its.toArray.toList ns := ints_of_vals r
  refine call_set_tupI ns (I1.ok.hd hc) pt hi (by unfold scanBound; omega) fun h' tk c S hc2 hk => PyProof.Rows.args_nil ?_
  have I2 : Inv X pins σ H1 { s1 with heap := h', toks := tk } := I1.kept fun b o e => hk b o e
  obtain ⟨o, es, ep, t, ho, hex, hd, g, nd, hme, hb, hf, hn, _⟩ := S
  refine call_len_set ho hex hd hf (by omega) ⟨.int es.size, H1, I2.tok _, ⟨_, rfl⟩, ?_⟩
  have e := q1 (es.toList.map keyOf) nd (fun k => by rw [← hme k]; simp)
  rw [List.length_map, Array.length_toList] at e
  exact e⟩
variable {W : WX} {a : Expr} {ta : DE} {p p2 q pos : Pos}
theorem de_sortSet (hg : Gl X "sorted") (hm : X.mg "sorted" = none) (hg2 : Gl X "set") (hm2 : X.mg "set" = none) (ha : PDE X W a ta) (hc : X.calm = true := by rfl)
    (na : starEach [a] X.env = (false, eval a X.env) :: starEach [] X.env := by rfl) : PDE X W (.Call (.Name "sorted" p) [.Call (.Name "set" p2) [a] [] q] [] pos) (d1 uSortSet ta) where
  mono := fun ρ μ Q Q' E E' hq hx h => ha.mono ρ μ _ _ _ _ (fun x μ1 z => by
    unfold uSortSet at z ⊢
    split at z
    · exact opt_mono (fun ns k => ⟨k.1, fun ns' p h1 h2 n => hq _ _ (k.2 ns' p h1 h2 n)⟩) z
    · exact z) hx h
  run := PE_imp (pe_sortSet hc hg hm hg2 hm2 ha.run na) fun σ H Q ⟨ρ, μ, en, hs, h⟩ => ⟨ρ, μ, en, hs, ha.mono ρ μ _ _ _ _ (fun x μ1 z v H1 t1 s1 r1 => by
    unfold uSortSet at z
    split at z
    · obtain ⟨ns, e, z2⟩ := opt_ex z
      obtain ⟨a, vs, rfl, q, rr⟩ := rep_tup r1
      obtain rfl := intsOf_eq e
      rw [repl_ints rr] at q
      exact ⟨a, ns, rfl, q.seq, z2.1, fun ns' p h1 h2 n => z2.2 ns' p h1 h2 (s1.untold n) _ _ (t1.trans (.new n)) (s1.newL n (mk_ints ns')) mk_loc⟩
    · exact z.elim) (fun _ _ z => z) h⟩
theorem de_lenSet (hg : Gl X "len") (hm : X.mg "len" = none) (hg2 : Gl X "set") (hm2 : X.mg "set" = none) (ha : PDE X W a ta) (hc : X.calm = true := by rfl)
    (na : starEach [a] X.env = (false, eval a X.env) :: starEach [] X.env := by rfl) : PDE X W (.Call (.Name "len" p) [.Call (.Name "set" p2) [a] [] q] [] pos) (d1 uLenSet ta) where
  mono := fun ρ μ Q Q' E E' hq hx h => ha.mono ρ μ _ _ _ _ (fun x μ1 z => by
    unfold uLenSet at z ⊢
    split at z
    · exact opt_mono (fun ns k => ⟨k.1, fun ns' h1 h2 => hq _ _ (k.2 ns' h1 h2)⟩) z
    · exact z) hx h
  run := PE_imp (pe_lenSetT hc hg hm hg2 hm2 ha.run na) fun σ H Q ⟨ρ, μ, en, hs, h⟩ => ⟨ρ, μ, en, hs, ha.mono ρ μ _ _ _ _ (fun x μ1 z v H1 t1 s1 r1 => by
    unfold uLenSet at z
    split at z
    · obtain ⟨ns, e, z2⟩ := opt_ex z
      obtain ⟨a, vs, rfl, q, rr⟩ := rep_tup r1
      obtain rfl := intsOf_eq e
      rw [repl_ints rr] at q
      exact ⟨a, ns, rfl, q.seq, z2.1, fun ns' h1 h2 => z2.2 ns' h1 h2 _ H1 t1 s1 mk_int⟩
    · exact z.elim) (fun _ _ z => z) h⟩
end

/-! ### methods that lists and tuples have -/
section
variable {X : Cx}
def tMLT (K : PySem.W.Frag) (rL rT : V → List V → Hp → VK → Prop) (to : TE) (t : TA) : TE := fun σ H Q => to σ H fun x H1 => ∃ p, x = V.ref p ∧
  (((∃ xs, SqL K H1 p xs) ∧ t σ H1 fun ys H2 => rL x ys H2 Q) ∨ ((∃ xs, TqT K H1 p xs) ∧ t σ H1 fun ys H2 => rT x ys H2 Q))
theorem TqT.obj {pins : List (Addr × Obj)} {s : Shared} {σ : L2.St} {H : Hp} {p : Addr} {xs : List V} (I : Inv X pins σ H s) (h : TqT X.K H p xs) : s.TypeIs (.ref p) "tuple" ∧ ∀ a, Value.ref p = .ref a → ∃ ob, s.heap.get? a = some ob ∧ ob.dict = none := by
  rcases h with ⟨o, d, h⟩ | ⟨o, its, n, hk, hc, d, _⟩
  · obtain ⟨e, _, us, _, ob, e2, c2, _⟩ := I.hok _ _ h
    rw [e] at e2
    cases e2
    exact ⟨⟨o, e, c2⟩, fun a z => by cases z; exact ⟨o, e, d⟩⟩
  · exact ⟨⟨o, I.kIn p o hk, hc⟩, fun a z => by cases z; exact ⟨o, I.kIn p o hk, d⟩⟩
variable {o e : Expr} {es : List Expr} {to : TE} {t : TA} {apos cpos : Pos} {name : Str} {idL idT : String} {rL rT : V → List V → Hp → VK → Prop}
theorem pe_mLT (sL : Slot "list" name idL) (tyL : typeOf (.builtin idL) = pure (.type "method_descriptor")) (mL : MtR X idL rL) (sT : Slot "tuple" name idT) (tyT : typeOf (.builtin idT) = pure (.type "method_descriptor")) (mT : MtR X idT rT)
    (ho : PE X o to) (ha : PA X (e :: es) t)
    (hbase : attributeBase o name X.env (eval o X.env) = eval o X.env)
    (hfew : ((backTo cpos (starEach (e :: es) X.env)).all (fun x => !x.1) && (backToKw cpos (keywordEach [] X.env)).all (fun x => x.1.isSome)
      && decide ((e :: es).length + ([] : List Keyword).length + (if ([] : List Keyword).isEmpty then 0 else 1) < 30)) = true)
    (hline : (apos.endLine == cpos.line) = true) (hs : starEach (e :: es) X.env = (false, eval e X.env) :: starEach es X.env) (hplain : (backTo cpos (starEach es X.env)).any (·.1) = false) :
    PE X (.Call (.Attribute o name apos) (e :: es) [] cpos) (tMLT X.K rL rT to t) := ⟨fun pins s σ H Q I h => by
  refine wpAny_Call_method_late hbase hfew hline rfl (thn (ho.run pins s σ H _ I h) fun v s1 ⟨x, H1, I1, r1, p, ex, q1⟩ => ?_)
  subst ex
  cases r1
  rcases q1 with ⟨⟨xs, sq⟩, q1⟩ | ⟨⟨xs, sq⟩, q1⟩
  · obtain ⟨its, _, ⟨ob, n, hob, hcl, hdn, _⟩, _⟩ := I1.list sq
    refine ⟨"list", idL, PySem.F.plainAttrs_list, sL, tyL, ⟨ob, hob, hcl⟩, fun a z => by cases z; exact ⟨ob, hob, hdn⟩, ?_⟩
    have hA := ha.run cpos pins s1 σ H1 _ I1 q1
    rw [hs] at hA ⊢
    refine Calls.callWith_builtin (by show (false || (backTo cpos (starEach es X.env)).any (·.1)) = false; rw [hplain]; rfl) (Calls.evalArgs_plain (thn hA fun us s2 ⟨vs, H2, I2, r2, q2⟩ => mL pins s2 σ H2 (.ref p) vs (.ref p) us Q I2 rfl r2 q2))
  · obtain ⟨ty, nd⟩ := sq.obj I1
    refine ⟨"tuple", idT, PySem.F.plainAttrs_tuple, sT, tyT, ty, nd, ?_⟩
    have hA := ha.run cpos pins s1 σ H1 _ I1 q1
    rw [hs] at hA ⊢
    refine Calls.callWith_builtin (by show (false || (backTo cpos (starEach es X.env)).any (·.1)) = false; rw [hplain]; rfl) (Calls.evalArgs_plain (thn hA fun us s2 ⟨vs, H2, I2, r2, q2⟩ => mT pins s2 σ H2 (.ref p) vs (.ref p) us Q I2 rfl r2 q2))⟩
/-- the machine's rules of a method of lists and of tuples, and what the data asks -/
structure MetLT (X : Cx) (idL idT : String) (g : D → UA) : Prop where
  exL : ∃ r, MtR X idL r ∧ ∀ x xs μ (v : V) (vs : List V) (H : Hp) (Q : VK), (∀ ds, x ≠ .tup ds) → (∀ ds, x ≠ .wtup ds) → StR X.K H μ → Rep X.K H x v → RepL X.K H xs vs → g x xs μ (QL X.K H Q) → r v vs H Q
  exT : ∃ r, MtR X idT r ∧ ∀ ds xs μ (v : V) (vs : List V) (H : Hp) (Q : VK), StR X.K H μ → Rep X.K H (.tup ds) v → RepL X.K H xs vs → g (.tup ds) xs μ (QL X.K H Q) → r v vs H Q
  mono : ∀ x xs μ Q Q', (∀ d μ', Q d μ' → Q' d μ') → g x xs μ Q → g x xs μ Q'
theorem de_mLT {W : WX} {o : Expr} {to : DE} {tr : DA} {g : D → UA} (k : MetLT X idL idT g) (sL : Slot "list" name idL) (tyL : typeOf (.builtin idL) = pure (.type "method_descriptor")) (sT : Slot "tuple" name idT) (tyT : typeOf (.builtin idT) = pure (.type "method_descriptor"))
    (ho : PDE X W o to) (ha : PDA X W (e :: es) tr)
    (hbase : attributeBase o name X.env (eval o X.env) = eval o X.env := by rfl)
    (hfew : ((backTo cpos (starEach (e :: es) X.env)).all (fun x => !x.1) && (backToKw cpos (keywordEach [] X.env)).all (fun x => x.1.isSome)
      && decide ((e :: es).length + ([] : List Keyword).length + (if ([] : List Keyword).isEmpty then 0 else 1) < 30)) = true := by rfl)
    (hline : (apos.endLine == cpos.line) = true := by rfl) (hs : starEach (e :: es) X.env = (false, eval e X.env) :: starEach es X.env := by rfl) (hpl : (backTo cpos (starEach es X.env)).any (·.1) = false := by rfl) :
    PDE X W (.Call (.Attribute o name apos) (e :: es) [] cpos) (dMethLT g to tr) :=
  let ⟨_, mL, lL⟩ := k.exL
  let ⟨_, mT, lT⟩ := k.exT
  { mono := fun ρ μ Q Q' E E' hq hx h => ho.mono ρ μ _ _ _ _ (fun x μ1 z => ⟨z.1, ha.mono ρ μ1 _ _ _ _ (fun xs μ2 z2 => k.mono _ _ _ _ _ hq z2) hx z.2⟩) hx h
    run := PE_imp (pe_mLT sL tyL mL sT tyT mT ho.run ha.run hbase hfew hline hs hpl) fun σ H Q ⟨ρ, μ, he, hst, h⟩ => ⟨ρ, μ, he, hst, ho.mono ρ μ _ _ _ _ (fun x μ1 z v H1 t1 s1 r1 => by
      obtain ⟨z1, z2⟩ := z
      cases x with
      | tup ds =>
        obtain ⟨a, ws, rfl, q, _⟩ := rep_tup r1
        exact ⟨a, rfl, .inr ⟨⟨ws, q⟩, ρ, μ1, he.tp t1, s1, ha.mono ρ μ1 _ _ _ _ (fun xs μ2 z3 vs H2 t2 s2 r2 =>
          lT _ _ _ _ _ _ _ s2 (r1.tp t2) r2 (k.mono _ _ _ _ _ (fun _ _ q => QL.later (t1.trans t2) q) z3)) (fun _ _ q => XL.later t1 q) z2⟩⟩
      | rol ds =>
        obtain ⟨a, ws, rfl, q, _⟩ := rep_rol r1
        exact ⟨a, rfl, .inl ⟨⟨ws, q.seq⟩, ρ, μ1, he.tp t1, s1, ha.mono ρ μ1 _ _ _ _ (fun xs μ2 z3 vs H2 t2 s2 r2 =>
          lL _ _ _ _ _ _ _ (fun _ e => by cases e) (fun _ e => by cases e) s2 (r1.tp t2) r2 (k.mono _ _ _ _ _ (fun _ _ q => QL.later (t1.trans t2) q) z3)) (fun _ _ q => XL.later t1 q) z2⟩⟩
      | loc p =>
        obtain ⟨xs0, e0⟩ := Option.isSome_iff_exists.mp z1
        obtain ⟨ws, h1, _⟩ := s1.lst e0
        obtain rfl := rep_loc r1
        exact ⟨p, rfl, .inl ⟨⟨ws, .of h1⟩, ρ, μ1, he.tp t1, s1, ha.mono ρ μ1 _ _ _ _ (fun xs μ2 z3 vs H2 t2 s2 r2 =>
          lL _ _ _ _ _ _ _ (fun _ e => by cases e) (fun _ e => by cases e) s2 (r1.tp t2) r2 (k.mono _ _ _ _ _ (fun _ _ q => QL.later (t1.trans t2) q) z3)) (fun _ _ q => XL.later t1 q) z2⟩⟩
      | _ => exact False.elim z1) (fun _ _ z => z) h⟩ }
/-- t.count(k) -/
def rCntT (K : PySem.W.Frag) : V → List V → Hp → VK → Prop := fun x xs H Q => ∃ (p : Addr) (ns : List Int) (k : Int), x = .ref p ∧ xs = [.int k] ∧ SqT K H p (ns.map V.int) ∧ Q (.int (ns.count k : Nat)) H
theorem mt_tcount : MtR X "tuple.count" (rCntT X.K) := by
  intro pins s σ H x xs v us Q I rx rxs ⟨p, ns, k, e1, e2, hs, q⟩
  subst e1 e2
  cases rx
  obtain ⟨u, rfl, ru⟩ := rxs.one
  obtain ⟨t, rfl⟩ := ru
  obtain ⟨its, rv, ⟨⟨cls, dd, data, sl⟩, ho, hc, n, hd⟩, _⟩ := I.tuple hs
  cases hc
  cases hd
  have hi := ints_of_vals rv
  have ec : its.toArray.toList.countP (eqk k) = ns.count k := eqk_count hi
  refine call_meets PySem.F.slot_tuple_count ⟨_, ho, rfl⟩ PySem.F.entry_tuple_count (PySem.F.args_tuple_count_2 _ _)
    (PySem.SeqAt.tuple_countAt p its.toArray n dd sl (.int k t) (eqk k)) ⟨ho, fun y hy => (eqk_gives hi y (by simpa using hy)).at _ _, .int (ns.count k : Nat), H, I.tok _, ⟨s.toks, ?_⟩, q⟩
  rw [ec]
theorem intSeq_L {K : PySem.W.Frag} {H : Hp} {x : D} {μ : Sto} {v : V} {ns : List Int} (nt : ∀ ds, x ≠ .tup ds) (s : StR K H μ) (r : Rep K H x v) (e : intSeq x μ = some ns) (hw : ∀ ds, x ≠ .wtup ds) : ∃ a, v = .ref a ∧ SqL K H a (ns.map V.int) := by
  refine lstInts_ln s r ?_
  unfold intSeq at e
  unfold lstInts
  cases x <;> first | exact e | exact absurd rfl (nt _) | exact absurd rfl (hw _)
theorem mk_count : MetLT X "list.count" "tuple.count" mCount where
  exL := ⟨_, mt_lcount, fun x xs μ v vs H Q nt hw s rx rl h => by
    unfold mCount at h
    split at h
    · obtain ⟨u, rfl, ru⟩ := one_of rl
      obtain rfl := rep_int ru
      obtain ⟨ns, e, h⟩ := opt_ex h
      obtain ⟨a, rfl, q⟩ := intSeq_L nt s rx e hw
      exact ⟨a, ns, _, rfl, rfl, q, h _ H (.refl _) s mk_int⟩
    · exact h.elim⟩
  exT := ⟨_, mt_tcount, fun ds xs μ v vs H Q s rx rl h => by
    unfold mCount at h
    split at h
    · obtain ⟨u, rfl, ru⟩ := one_of rl
      obtain rfl := rep_int ru
      obtain ⟨ns, e, h2⟩ := opt_ex h
      obtain ⟨a, ws, rfl, q, rr⟩ := rep_tup rx
      obtain rfl := intsOf_eq (show intsOf ds = some ns from e)
      rw [repl_ints rr] at q
      exact ⟨a, ns, _, rfl, rfl, q.seq, h2 _ H (.refl _) s mk_int⟩
    · exact h.elim⟩
  mono := fun x xs μ Q Q' hq h => by
    unfold mCount at h ⊢
    split at h
    · exact opt_mono (fun ns k => hq _ _ k) h
    · exact h
theorem de_count {W : WX} {o e : Expr} {to te : DE} {apos cpos : Pos} (ho : PDE X W o to) (ha : PDE X W e te)
    (hbase : attributeBase o "count" X.env (eval o X.env) = eval o X.env := by rfl)
    (hfew : ((backTo cpos (starEach [e] X.env)).all (fun x => !x.1) && (backToKw cpos (keywordEach [] X.env)).all (fun x => x.1.isSome)
      && decide ([e].length + ([] : List Keyword).length + (if ([] : List Keyword).isEmpty then 0 else 1) < 30)) = true := by rfl)
    (hline : (apos.endLine == cpos.line) = true := by rfl) (hs : starEach [e] X.env = (false, eval e X.env) :: starEach [] X.env := by rfl) (hpl : (backTo cpos (starEach [] X.env)).any (·.1) = false := by rfl) :
    PDE X W (.Call (.Attribute o "count" apos) [e] [] cpos) (dMethLT mCount to (dCons te dNil)) :=
  de_mLT mk_count PySem.F.slot_list_count PySem.F.type_list_count PySem.F.slot_tuple_count PySem.F.type_tuple_count ho (da_cons ha da_nil hs) hbase hfew hline hs hpl
end
end PD
set_option Elab.async false
set_option linter.all false
set_option maxRecDepth 100000
set_option maxHeartbeats 4000000
/-! PDEnd: from a law's promise on data to the row. -/
namespace PD
open PySem PySem.Spec PyProof.Rows L2
theorem rol_of {K : PySem.W.Frag} {H : Hp} {a : Addr} {ns : List Int} (hO : Only H) (hS : SqL K H a (ns.map V.int)) : Rep K H (.rol (ns.map D.int)) (.ref a) := by
  simp only [Rep]
  refine ⟨a, ns.map V.int, rfl, ?_, mk_ints ns⟩
  rcases hS with (h | h) | h
  · rcases hO a with k | ⟨o, xs, k⟩
    · rw [k] at h; cases h
    · rw [k] at h; cases h
  · exact .inl h
  · exact .inr h
theorem st_none {K : PySem.W.Frag} {H : Hp} : StR K H (fun _ => none) := fun a o e => by cases e
/-- the law's promise that the row wants -/
def spEnd (K : PySem.W.Frag) : Sp := fun vs H Q E => ∃ (a : Addr) (ns : List Int), vs = [.ref a] ∧ ns.length ≤ 63 ∧ Only H ∧ SqL K H a (ns.map V.int) ∧ ∀ H', Q (.bl true) H'
theorem sp_end {K : PySem.W.Frag} {mg : Str → Option Value} {pr : Pr} (m : MonP pr) (law : ∀ ns : List Int, ns.length ≤ 63 → pr [.rol (ns.map D.int)] (fun _ => none) (fun d _ => d = .bl true) (fun _ _ => False)) :
    ∀ vs H Q E, spEnd K vs H Q E → spL K mg pr vs H Q E := fun vs H Q E ⟨a, ns, e, hl, hO, hS, q⟩ => by
  subst e
  have h := m.mono _ _ _ (QL K H Q) _ (fun x μ' => ∀ cls d H', Tp H H' → StR K H' μ' → ExR K mg H' x cls d → E cls d H') (fun d μ' e v H' t s r => by
    subst e
    rw [rep_bl r]
    exact q H') (fun _ _ z => z.elim) (law ns hl)
  exact ⟨_, _, mk_cons (rol_of hO hS) mk_nil, st_none, h⟩
theorem walk {l : PySem.W.OpenLaw} {k : Nat} {q : Program} {loose : List Str} {XP : (Str → Option Value) → Heap → Prop} {YP : World → Heap → Prop} {d : DefRec} {K : Params → PySem.W.Frag} (hn : l.most = some 63) (hdf : d.params.defaults = []) (hk : Room k callerA)
    (hY : ∀ (w : World) (h : Heap), YP w h → (K w.params).In h)
    (F : ∀ (w : World) (mg : Str → Option Value) (fa : Addr) (h : Heap), (K w.params).In h → h.Ns mainGlobals mg → mg d.name = some (.ref fa) →
      ∃ fd : FuncData, (∀ (s : Shared) (u : Value), BindsTo s fd ⟨[u], []⟩ [("script", u)]) ∧
        ∀ base : Heap, (K w.params).In base → base.Ns mainGlobals mg → FnOk l.prog w (K w.params) mg base (L2.CX l.prog w) k fa fd ["script"] (spEnd (K w.params))) :
    PySem.W.WalkO q loose XP YP l.row.toRowW d [] (fun f vs => PySem.call f vs) :=
  L2.walk_of (n := 63) (k := k) (x := "script") (CX := fun w => L2.CX l.prog w) (sp := fun w => spEnd (K w.params)) hn (by decide) hdf hk hY F (fun _ H a ns hl hO hS => ⟨a, ns, rfl, hl, hO, hS, fun _ => rfl⟩)
    fun w H s e s' z => by
      obtain ⟨_, _, _, _, _, _, _, _, _, _, _, _, q⟩ := z
      exact q
end PD
set_option Elab.async false
set_option linter.all false
set_option maxRecDepth 100000
set_option maxHeartbeats 4000000
/-! PDExc: own exception classes whose __init__ says super().__init__(..) and keeps what it was given. -/
namespace PD
open PySem PySem.Spec PyProof.Rows L2 PySem.W

section
variable {X : Cx} {pins : List (Addr × Obj)} {σ : L2.St} {H : Hp} {s : Shared} {a C u : Addr} {Q : Value → Shared → Prop} {E : Value → Shared → Prop} {A : Around}
/-- the bound ValueError.__init__ is called -/
theorem mw_call {us : List Value} (T : OexC X.K C) (I : Inv X pins σ H s) (e : H a = some (exo a C none)) (hu : s.heap.get? u = some (kxs_mw "ValueError.__init__" a)) (hl : us.length ≤ sizeLine)
    (h : ∀ s', Inv X pins σ H s' → (∀ b o, b ≠ a → s.heap.get? b = some o → s'.heap.get? b = some o) → Q .none s') : wpAny (model X.prog X.w) A (call (.ref u) us) Q E s := by
  obtain ⟨nm, q, N, bs, bm, sn, sub, ab, col, dd, k0, k1, k2, k3, k5, hC, hbm⟩ := T.cls
  obtain ⟨t1, ho⟩ := exo_at I.hok e
  have hCs := I.kIn _ _ hC
  obtain ⟨hp, g, d, t, os⟩ := s
  refine wpAny_call (codeAny_of_tree ?_)
  show wpAny _ A.in1 (callAny (.ref u) ⟨us, []⟩) _ _ _
  simp only [callAny]
  refine wpAny_bind (wpAny_load hu ?_)
  simp only [kxs_mw,
    show (Value.type "method-wrapper" == Value.type "method" || Value.type "method-wrapper" == Value.type "builtin_function_or_method" || Value.type "method-wrapper" == Value.type "method-wrapper") = true by decide, if_true]
  refine KFB.if_so (by decide) (wpAny_bind (check_bound_init F.excBase_ValueError.toExcCallFacts hCs ho rfl (wpAny_bind (wpAny_pure (wpAny_pure ?_)))))
  refine ⟨plainId_quiet F.excBase_ValueError.init.plain _, codeAny_builtin F.excBase_ValueError.initEntry ?_⟩
  refine exc_init_tree (cls := .ref C) (t0 := t1) (dv := none) (c2 := .none) (c3 := .none) (b4 := .bool false) ho hl fun h' k hx _ => ?_
  have J := I.write (t' := t) (x := a) (e := a) (o := exo a C none) (by rw [e]; exact True.intro) (.inl rfl) k ⟨_, hx⟩ (exo_ok hx)
  have eu : upd H a (exo a C none) = H := by
    funext b
    by_cases hb : b = a
    · rw [hb, upd_same, e]
    · rw [upd_ne hb]
  rw [eu] at J
  exact h _ J k
end
theorem exo_xd {e C : Addr} {d : Option Addr} {fs : List (Str × V)} : exo e C d ≠ .xd fs := fun z => by
  have y : HO.ext _ = HO.xd fs := z
  cases y
/-- what the written part says of such a class: at C, its __init__ at f -/
structure XTxt (P : Program) (K : PySem.W.Frag) (mg : Str → Option Value) (C f cda cc : Addr) : Prop where
  T : OexC K C
  iC : findIn K (.ref C) "__init__" = some (some (.ref f))
  tI : typeIn K (.ref f) = some (.type "function")
  code : ∃ ccl cdd vs ccs file tf, K.lookup cda = some ⟨ccl, cdd, .fields vs, ccs⟩ ∧ vs[2]? = some (.str file tf) ∧ ((P.main.file : Str) == file) = true
  cell : ∃ cl cld csl, K.lookup cc = some ⟨cl, cld, .cell (some (.ref C)), csl⟩
  sup : ks_superIn K C C "__init__" = some (some (.builtin "ValueError.__init__"))
  own : mroIn K C (.ref C) = some true
  isV : subIn K (.ref C) (.type "ValueError") = some true
  opq : nsIn K cStatics "thirdparty.any" = some none
  nosup : mg "super" = none
  topno : (P.main.scope.names.lookup ("super" : Str)).isSome = false
section
variable {P : Program} {w : World} {K : PySem.W.Frag} {mg : Str → Option Value} {base : Heap} {C f cda cc : Addr}
/-- super().__init__(e, ..) -/
theorem sup_init {X : Cx} {pins : List (Addr × Obj)} {σ : L2.St} {H : Hp} {s : Shared} {a L : Addr} {q : Str} {scope : Scope} {m : Str → Option Value} {body : List Stmt} {e1 : Expr} {es : List Expr} {p0 p1 p2 p5 : Pos} {fd : FuncData} {ar : Arg} {oc : Value} {od : Option Addr} {osl : Array (Option Value)} {E : Value → Shared → Prop} {Q : Value → Shared → Prop} {A : Around}
    (Z : XTxt X.prog X.K X.mg C f cda cc) (I : Inv X pins σ H s) (e : H a = some (exo a C none)) (lk : X.K.lookup f = some ⟨oc, od, .func fd, osl⟩) (hp : (fd.params.posonlyargs ++ fd.params.args).head? = some ar) (har : ar.arg = "self")
    (hns : s.heap.Ns L m) (hself : m "self" = some (.ref a)) (hk : scope.kind = .function) (hks : scope.names.lookup ("super" : Str) = some .globalImplicit) (hkc : scope.names.lookup ("__class__" : Str) = some .free) (hka : scope.names.lookup ("self" : Str) = some .local)
    (hargs : ∀ s' : Shared, Inv X pins σ H s' → s'.heap.Ns L m → wpAny (model X.prog X.w) A (spliced (backTo p5 (starEach (e1 :: es) (ksEnv q scope L f (.ref cda) cc)))) (fun us s2 => s2.heap = s'.heap ∧ Inv X pins σ H s2 ∧ us.length ≤ sizeLine ∧
      ∀ s3, Inv X pins σ H s3 → s3.heap.Ns L m → Q .none s3) E s')
    (he : starEach (e1 :: es) (ksEnv q scope L f (.ref cda) cc) = (false, eval e1 (ksEnv q scope L f (.ref cda) cc)) :: starEach es (ksEnv q scope L f (.ref cda) cc)) (hpl : (backTo p5 (starEach es (ksEnv q scope L f (.ref cda) cc))).any (·.1) = false)
    {pl : Sem Bool} (hev : eval (.Call (.Attribute (.Call (.Name "super" p0) [] [] p1) "__init__" p2) (e1 :: es) [] p5) (ksEnv q scope L f (.ref cda) cc) = (do
      let ov ← attributeBase (.Call (.Name "super" p0) [] [] p1) "__init__" (ksEnv q scope L f (.ref cda) cc) (eval (.Call (.Name "super" p0) [] [] p1) (ksEnv q scope L f (.ref cda) cc))
      standAt p2.atName
      let (g0, first) ← holding [ov] (getMethod ov "__init__" pl)
      callWith p5 g0 first (backTo p5 (starEach (e1 :: es) (ksEnv q scope L f (.ref cda) cc))) [])) :
    _root_.PySem.wpAt (model X.prog X.w) A (.func body (ksEnv q scope L f (.ref cda) cc)) (eval (.Call (.Attribute (.Call (.Name "super" p0) [] [] p1) "__init__" p2) (e1 :: es) [] p5) (ksEnv q scope L f (.ref cda) cc)) Q E s := by
  obtain ⟨ccl, cdd, vs, ccs, file, tf, hcode, hvs, hfile⟩ := Z.code
  obtain ⟨cl, cld, csl, hcell⟩ := Z.cell
  obtain ⟨mb, hb1, hb2⟩ := I.mod.blt
  obtain ⟨nm, qn, N, bs, bm, sn, sub, ab, col, dd, k0, k1, k2, k3, k5, hC, hbm⟩ := Z.T.cls
  have hcl : clsIn X.K C = some { name := nm, bases := bs, mro := .ref C :: bm, ns := N, qualname := qn, hasDict := true, slotNames := sn, subclasses := sub, abstract := ab, collection := col, hasDel := false } := by unfold clsIn; rw [hC]
  obtain ⟨t1, ho⟩ := exo_at I.hok e
  have KX := I.kIn
  have IA : InstAt s.heap a { cls := .ref C, dict := none, data := .fields #[.ref t1, .none, .none, .none, .bool false, .none] } C none := ⟨ho, rfl, rfl, trivial⟩
  refine ks_wpAt_MethodCall ?_ hev
  refine ks_wpAt_super_base (env := ksEnv q scope L f (.ref cda) cc) hks hkc (by decide) rfl (KX _ _ lk) rfl hp rfl (KX _ _ hcode) rfl hvs hfile Z.topno ?_
  refine ks_loadName_global hk hks (Calls.loadGlobal_builtin (env := ksEnv q scope L f (.ref cda) cc) (I.mod.glob.keeps I.bk) Z.nosup (hb1.keeps I.bk) ((hb2 _ (by decide +kernel)).trans (show bootBuiltins "super" = some (.type "super") by decide +kernel)) ⟨rfl, ?_⟩)
  refine wpAny_loadName_free hk hkc rfl ⟨_, KX _ _ hcell, rfl⟩ ?_
  rw [har]
  refine wpAny_loadName_local hk hka hns hself ?_
  refine ks_wpAny_isType_cls (KX _ _ hC) rfl ⟨rfl, ?_⟩
  obtain ⟨hh, g, d, t, os⟩ := s
  refine ks_wpAny_call_super (KX _ _ hC) rfl IA.at_ IA.cls (fun c e => ?_) (looks_mroIn KX Z.own) (fun h' so k => ?_)
  · cases e
  have I1 : Inv X pins σ H ⟨h', g, d, t, os⟩ := I.kept k
  have IA1 : InstAt h' a { cls := .ref C, dict := none, data := .fields #[.ref t1, .none, .none, .none, .bool false, .none] } C none := ⟨k _ _ ho, rfl, rfl, trivial⟩
  have hsup := Z.sup
  unfold ks_superIn at hsup
  rw [hcl] at hsup
  refine kxs_getMethod kxs_ValueError so (looks_opaque I1.kIn Z.opq) (l₀ := .ref C :: bm) ?_ rfl I1.kIn hsup (IA1.type.andThen (looks_subIn I1.kIn Z.isV)) (ks_ne I1.kIn IA1 hcl) (by decide) ?_
  · exact fun A Q E s k q => wpAny_bind ((looks_clsIn I1.kIn hcl) A _ E s k (wpAny_pure q))
  have I2 : Inv X pins σ H ⟨h'.push (kxs_mw "ValueError.__init__" a), g, d, t + 1, os⟩ := I1.kept fun b o z => Heap.get?_push_of_some _ z
  have hn2 : (h'.push (kxs_mw "ValueError.__init__" a)).Ns L m := (hns.keeps k).keeps fun b o z => Heap.get?_push_of_some _ z
  have hu : (h'.push (kxs_mw "ValueError.__init__" a)).get? h'.objs.size = some (kxs_mw "ValueError.__init__" a) := Heap.get?_push_size _ rfl
  have hA := hargs _ I2 hn2
  rw [he] at hA ⊢
  refine kxs_callWith (i := "ValueError.__init__") (x := a) (by show (false || (backTo p5 (starEach es (ksEnv q scope L f (.ref cda) cc))).any (·.1)) = false; rw [hpl]; rfl) (Calls.evalArgs_plain (thn hA fun us s2 ⟨e2, I3, hl, q2⟩ => ?_))
  have hu2 : s2.heap.get? h'.objs.size = some (kxs_mw "ValueError.__init__" a) := by rw [e2]; exact hu
  have hn3 : s2.heap.Ns L m := by rw [e2]; exact hn2
  refine ⟨hu2, mw_call Z.T I3 e hu2 hl fun s3 J kk => q2 s3 J (hn3.at fun o z => kk L o ?_ z)⟩
  intro z
  obtain ⟨oL, _, _, hoL, hdL, _⟩ := hns
  rw [z] at hoL
  have := hoL.symm.trans ho
  cases this
  cases hdL
end

/-! ### the promise of such an __init__ -/
/-- its fields, the last one first -/
def spIx (C : Addr) (fs : List Str) : Sp := fun vs H Q _ => ∃ (a : Addr) (ys : List V), vs = .ref a :: ys ∧ ys.length = fs.length ∧ H a = some (exo a C none) ∧
  ∀ dx H', H dx = none → dx ≠ a → Tp H H' → (∀ b, b ≠ a → b ≠ dx → H' b = H b) → H' a = some (exo a C (some dx)) → H' dx = some (exd dx ((fs.zip ys).reverse)) → Q .non H'
section
variable {P : Program} {w : World} {K : PySem.W.Frag} {mg : Str → Option Value} {base : Heap} {C f cda cc : Addr}
def sc0 (sc : Scope) (ps : List Str) : Scope := { sc with names := ps.map fun x => (x, NameKind.local) }
theorem lookup_local : ∀ {ps : List Str} {x : Str}, x ∈ ps → (ps.map fun x => (x, NameKind.local)).lookup x = some .local
  | p :: ps, x, h => by
    rw [List.map_cons, List.lookup_cons]
    by_cases e : x = p
    · rw [e]; simp
    · rw [show (x == p) = false by simpa using e]
      exact lookup_local ((List.mem_cons.mp h).resolve_left e)
theorem fs_sc0 {sc : Scope} {ps : List Str} (hk : sc.kind = .function) (hco : sc.isCoroutine = false) (hg : sc.isGenerator = false) (nd : ps.Nodup) : FnScope ps ps (sc0 sc ps) :=
  ⟨hk, hco, hg, nd, List.take_length, fun x hx => .inl (lookup_local hx), fun y hy => by
    obtain ⟨x, _, e⟩ := List.mem_map.mp hy
    rw [← e]
    exact fun z => nomatch z⟩
theorem bindL_all {kindOf : Str → Option NameKind} : ∀ {bs : List (Str × Value)} {m : Str → Option Value}, (∀ p ∈ bs, kindOf p.1 = some .local) → ∀ y, bindL kindOf bs m y = (match bs.reverse.lookup y with | some v => some v | none => m y)
  | [], m, _, y => rfl
  | (n, v) :: r, m, h, y => by
    unfold bindL
    rw [if_pos (h (n, v) (List.mem_cons_self ..)), bindL_all (fun p hp => h p (List.mem_cons_of_mem _ hp)) y, List.reverse_cons]
    have la : ∀ l : List (Str × Value), (l ++ [(n, v)]).lookup y = (match l.lookup y with | some u => some u | none => if y = n then some v else none) := fun l => by
      induction l with
      | nil =>
        show List.lookup y [(n, v)] = _
        rw [List.lookup_cons]
        by_cases e : y = n
        · rw [show (y == n) = true by simpa using e]; simp [e]
        · rw [show (y == n) = false by simpa using e]; simp [e]
      | cons q l ih =>
        rw [List.cons_append, List.lookup_cons, List.lookup_cons]
        cases hq : (y == q.1)
        · exact ih
        · rfl
    rw [la]
    cases r.reverse.lookup y with
    | some u => rfl
    | none =>
      by_cases e : y = n
      · simp [e]
      · simp [e]
/-- where the body of such an __init__ begins -/
theorem exi_enter {CX : CXT} {k : Nat} {qual : Str} {params : Arguments} {body : List Stmt} {scope : Scope} {dV kV doc pm ct oc : Value} {an od : Option Addr} {osl : Array (Option Value)} {ps : List Str} {A : Around} {outer : List Env} {s : Shared} {H : Hp} {E : XK} {R : Result → Shared → Prop} {us : List Value} {vs : List V} {args : Args}
    (lk : K.lookup f = some ⟨oc, od, .func (fnX "__init__" qual params body scope [("__class__", cc)] dV kV doc pm an (.ref cda) ct), osl⟩) (hcd : codeIn K (.ref cda) qual = true) (nd : ps.Nodup)
    (hk : scope.kind = .function) (hco : scope.isCoroutine = false) (hgen : scope.isGenerator = false) (hcell : ∀ x ∈ scope.names, x.2 ≠ .cell) (hloc : ∀ x ∈ ps, scope.names.lookup x = some .local)
    (hr : Room (k + 1) A) (e0 : Env0 P w K mg base A outer s H) (hb : BindsTo s (fnX "__init__" qual params body scope [("__class__", cc)] dV kV doc pm an (.ref cda) ct) args (ps.zip us)) (r : Vals vs us) (hl : vs.length = ps.length)
    (h : ∀ s1, Inv (cxOf CX P w K mg base ps qual (sc0 scope ps) f (.ref cda) A outer s H E) [] (L2.start ps vs) H s1 →
      _root_.PySem.wpAt (model P w) (A.deeper (ksEnv qual scope s.heap.objs.size f (.ref cda) cc)) (.func body (ksEnv qual scope s.heap.objs.size f (.ref cda) cc)) (execs body (ksEnv qual scope s.heap.objs.size f (.ref cda) cc)) (fun fl s' => R (.ok (.ret (match fl with | .ret v => v | _ => .none))) s')
        (fun e s' => wpAny (model P w) (A.deeper (ksEnv qual scope s.heap.objs.size f (.ref cda) cc)) (leaving (ksEnv qual scope s.heap.objs.size f (.ref cda) cc) e) (fun _ s'' => R (.error e) s'') (fun e' s'' => R (.error e') s'') s') s1) : codeAny (model P w) A (.call (.ref f) args) R s := by
  have KX : K.In s.heap := e0.mod.kin.keeps fun b o e => (e0.bs b o e).1
  have lim : s.heap.NoLimit := e0.mod.nolimit.keeps fun b o e => (e0.bs b o e).1
  have S0 := fs_sc0 (sc := scope) hk hco hgen nd
  have inL : ∀ p ∈ ps.zip us, p.1 ∈ ps := fun p hp => (List.of_mem_zip hp).1
  have kind0 : ∀ p ∈ ps.zip us, (envOfC qual (sc0 scope ps) s.heap.objs.size f (.ref cda)).kindOf p.1 = some .local := fun p hp => lookup_local (inL p hp)
  have cells0 : ∀ (n : Nat) (l : List Str) (acc : List (Str × Addr)), cellsFrom n (l.map fun x => (x, NameKind.local)) acc = acc := fun n l => by
    induction l with
    | nil => intro acc; rfl
    | cons x l ih => intro acc; exact ih acc
  refine ks_codeAny_call_defAt (fd := fnX "__init__" qual params body scope [("__class__", cc)] dV kV doc pm an (.ref cda) ct) (binds := ps.zip us) hr.depth (KX _ _ lk) rfl lim (codeRec_of KX hcd) rfl hb hcell (fun p hp => hloc _ (inL p hp)) (fun h₀ hns hkp => ?_) hco hgen hk
  refine h _ (inv_start S0 hr.hd e0 hl r ⟨⟨⟨_, _, rfl⟩, ?_, hkp, Nat.le_refl _⟩, fun n c hc => ?_, ?_, fun n c hc => ?_⟩)
  · have e : (bindL (envOfC qual (sc0 scope ps) s.heap.objs.size f (.ref cda)).kindOf (ps.zip us) fun _ => none) = fun x => (ps.zip us).reverse.lookup x := by
      funext y
      rw [bindL_all kind0 y]
      cases (ps.zip us).reverse.lookup y <;> rfl
    rw [e]
    exact hns
  · have z : cellsFrom (s.heap.objs.size + 1) (sc0 scope ps).names [] = [] := cells0 _ _ _
    rw [z] at hc; cases hc
  · have z : cellsFrom (s.heap.objs.size + 1) (sc0 scope ps).names [] = [] := cells0 _ _ _
    rw [z]; exact List.Pairwise.nil
  · have z : cellsFrom (s.heap.objs.size + 1) (sc0 scope ps).names [] = [] := cells0 _ _ _
    rw [z] at hc; cases hc
theorem exi_quiet {q : Str} {scope : Scope} {L f cc : Addr} {cd : Value} (hk : scope.kind = .function) : interactive (ksEnv q scope L f cd cc) = false := by
  unfold interactive
  simp [Env.blockKind, hk]
/-- a parameter is read -/
theorem exi_name {CX : CXT} {qual : Str} {scope : Scope} {ps : List Str} {A A2 : Around} {outer : List Env} {s s1 : Shared} {H H1 : Hp} {E : XK} {vs : List V} {i : Nat} {x : Str} {v : V} {pos : Pos} {Q : Value → Shared → Prop} {E2 : Value → Shared → Prop}
    (I : Inv (cxOf CX P w K mg base ps qual (sc0 scope ps) f (.ref cda) A outer s H E) [] (L2.start ps vs) H1 s1) (hx : ps[i]? = some x) (hv : vs[i]? = some v) (hk : scope.kind = .function) (hl : scope.names.lookup x = some .local) (hd : (x == ("__debug__" : Str)) = false)
    (h : ∀ u, RelV v u → Q u s1) : wpAny (model P w) A2 (eval (.Name x pos) (ksEnv qual scope s.heap.objs.size f (.ref cda) cc)) Q E2 s1 := by
  obtain ⟨m, hn, hm⟩ := I.loc
  have hxm : x ∈ ps := List.mem_of_getElem? hx
  have hs : (L2.start ps vs)[i]? = some (some v) := by
    unfold L2.start
    have hi : i < vs.length := by
      rcases Nat.lt_or_ge i vs.length with z | z
      · exact z
      · rw [List.getElem?_eq_none z] at hv; cases hv
    rw [List.getElem?_append_left (by simpa using hi), List.getElem?_map, hv]
    rfl
  obtain ⟨u, ru, l⟩ := hm i x v hx hs (.inl (lookup_local hxm))
  have hk0 : (sc0 scope ps).names.lookup x = some .local := lookup_local hxm
  rcases l with ⟨_, hu⟩ | ⟨z, _⟩
  · exact wpAny_Name (wpAny_loadName_local hk hl hn hu (h u ru)) hd
  · rcases z with z | z
    · have z2 := hk0.symm.trans z
      cases z2
    · have z2 := hk0.symm.trans z
      cases z2
/-- __init__(self, x1, x2): super().__init__(x1, x2); self.x1 = x1; self.x2 = x2 -/
theorem init2_ok {k : Nat} {x1 x2 qual : Str} {params : Arguments} {scope : Scope} {dV kV doc pm ct oc : Value} {an od : Option Addr} {osl : Array (Option Value)} {ar : Arg} {p0 p1 p2 p3 p4 p5 p6 p7 p8 p9 p10 p11 p12 p13 p14 : Pos}
    (Z : XTxt P K mg C f cda cc)
    (lk : K.lookup f = some ⟨oc, od, .func (fnX "__init__" qual params [.Expr (.Call (.Attribute (.Call (.Name "super" p0) [] [] p1) "__init__" p2) [.Name x1 p3, .Name x2 p4] [] p5) p6, .Assign [.Attribute (.Name "self" p7) x1 p8] (.Name x1 p9) p10, .Assign [.Attribute (.Name "self" p11) x2 p12] (.Name x2 p13) p14] scope [("__class__", cc)] dV kV doc pm an (.ref cda) ct), osl⟩)
    (hcd : codeIn K (.ref cda) qual = true) (hp : (params.posonlyargs ++ params.args).head? = some ar) (har : ar.arg = "self") (nd : (["self", x1, x2] : List Str).Nodup)
    (hk : scope.kind = .function) (hco : scope.isCoroutine = false) (hgen : scope.isGenerator = false) (hcell : ∀ x ∈ scope.names, x.2 ≠ .cell) (hks : scope.names.lookup ("super" : Str) = some .globalImplicit) (hkc : scope.names.lookup ("__class__" : Str) = some .free)
    (hka : scope.names.lookup ("self" : Str) = some .local) (hk1 : scope.names.lookup x1 = some .local) (hk2 : scope.names.lookup x2 = some .local) (hd1 : (x1 == ("__debug__" : Str)) = false) (hd2 : (x2 == ("__debug__" : Str)) = false)
    (no1 : findIn K (.ref C) x1 = some none) (no2 : findIn K (.ref C) x2 = some none)
    (hev : ∀ L : Addr, ∃ pl : Sem Bool, eval (.Call (.Attribute (.Call (.Name "super" p0) [] [] p1) "__init__" p2) [.Name x1 p3, .Name x2 p4] [] p5) (ksEnv qual scope L f (.ref cda) cc) = (do
      let ov ← attributeBase (.Call (.Name "super" p0) [] [] p1) "__init__" (ksEnv qual scope L f (.ref cda) cc) (eval (.Call (.Name "super" p0) [] [] p1) (ksEnv qual scope L f (.ref cda) cc))
      standAt p2.atName
      let (g0, first) ← holding [ov] (getMethod ov "__init__" pl)
      callWith p5 g0 first (backTo p5 (starEach [.Name x1 p3, .Name x2 p4] (ksEnv qual scope L f (.ref cda) cc))) [])) :
    FnOk P w K mg base (L2.CX P w) (k + 1) f (fnX "__init__" qual params [.Expr (.Call (.Attribute (.Call (.Name "super" p0) [] [] p1) "__init__" p2) [.Name x1 p3, .Name x2 p4] [] p5) p6, .Assign [.Attribute (.Name "self" p7) x1 p8] (.Name x1 p9) p10, .Assign [.Attribute (.Name "self" p11) x2 p12] (.Name x2 p13) p14] scope [("__class__", cc)] dV kV doc pm an (.ref cda) ct) ["self", x1, x2] (spIx C [x1, x2]) := by
  refine ⟨fun vs H Q E ⟨a, ys, e, hl, _⟩ => by rw [e, List.length_cons, hl]; rfl, fun A outer s H args us vs Q E hr e0 hb r hsp => ?_⟩
  obtain ⟨a, ys, ev, hl, ea, hq⟩ := hsp
  match ys, hl with
  | [y1, y2], _ =>
  subst ev
  refine exi_enter (CX := L2.CX P w) (E := E) lk hcd nd hk hco hgen hcell (fun x hx => ?_) hr e0 hb r rfl fun s1 I => ?_
  · have hx2 : x = "self" ∨ x = x1 ∨ x = x2 := by simpa using hx
    rcases hx2 with z | z | z
    · rw [z]; exact hka
    · rw [z]; exact hk1
    · rw [z]; exact hk2
  obtain ⟨m, hn, hm⟩ := I.loc
  have hself : m "self" = some (.ref a) := by
    obtain ⟨u, ru, l⟩ := hm 0 "self" (.ref a) rfl rfl (.inl (lookup_local (List.mem_cons_self ..)))
    rcases l with ⟨_, hu⟩ | ⟨z, _⟩
    · rw [hu, show u = .ref a from ru]
    · have k0 : (sc0 scope ["self", x1, x2]).names.lookup ("self" : Str) = some .local := lookup_local (List.mem_cons_self ..)
      rcases z with z | z
      · have z2 := k0.symm.trans z
        cases z2
      · have z2 := k0.symm.trans z
        cases z2
  obtain ⟨pl, hev⟩ := hev s.heap.objs.size
  refine ks_wpAt_execs_cons (ks_wpAt_Expr_any ?_ (exi_quiet hk) rfl)
  refine sup_init (X := cxOf (L2.CX P w) P w K mg base ["self", x1, x2] qual (sc0 scope ["self", x1, x2]) f (.ref cda) A outer s H E) Z I ea lk hp har hn hself hk hks hkc hka (fun s' J hn' => ?_) rfl rfl hev
  refine args_cons (exi_name (i := 1) J rfl rfl hk hk1 hd1 fun v1 rv1 => ?_) rfl
  refine args_cons (exi_name (i := 2) J rfl rfl hk hk2 hd2 fun v2 rv2 => ?_) rfl
  refine args_nil ⟨rfl, J, by rw [sizeLine_eq]; exact Nat.le_of_ble_eq_true rfl, fun s3 J3 _ => ?_⟩
  refine ks_wpAt_execs_cons (ks_wpAt_Assign_Attr (_root_.PySem.wpAt_of_wpAny (exi_name (i := 1) J3 rfl rfl hk hk1 hd1 fun v3 rv3 => exi_name (i := 0) J3 rfl rfl hk hka (by decide) fun v4 rv4 => ?_)) rfl)
  obtain rfl : v4 = .ref a := rv4
  refine ost_new Z.T J3 ea no1 rv3 fun dx s4 n ne J4 => ?_
  refine ks_wpAt_execs_cons (ks_wpAt_Assign_Attr (_root_.PySem.wpAt_of_wpAny (exi_name (i := 2) J4 rfl rfl hk hk2 hd2 fun v5 rv5 => exi_name (i := 0) J4 rfl rfl hk hka (by decide) fun v6 rv6 => ?_)) rfl)
  obtain rfl : v6 = .ref a := rv6
  have e1 : (upd (upd H dx (exd dx [(x1, y1)])) a (exo a C (some dx))) a = some (exo a C (some dx)) := upd_same
  have e2 : (upd (upd H dx (exd dx [(x1, y1)])) a (exo a C (some dx))) dx = some (exd dx [(x1, y1)]) := by rw [upd_ne ne, upd_same]
  refine ost_old Z.T J4 e1 e2 (Nat.le_of_ble_eq_true rfl) no2 rv5 fun s5 J5 => ?_
  refine _root_.PySem.wpAt_of_wpAny (wpAny_execs_nil ?_)
  refine ⟨.non, _, J5.os, J5.bare, J5.base, J5.hok, rfl, hq dx _ n ne ?_ (fun b hb1 hb2 => ?_) ?_ ?_⟩
  · refine ⟨fun b xs z => ?_, fun b o v z => ?_, fun b fs z => ?_⟩
    · rw [upd_ne (at_ne e2 (by rw [upd_ne (at_ne ea z exo_tup), upd_ne (ne_of_none z n)]; exact z) exd_tup), upd_ne (at_ne ea z exo_tup), upd_ne (ne_of_none z n)]; exact z
    · have zd : b ≠ dx := ne_of_none z n
      rw [upd_ne zd, upd_ne (at_ne ea z exo_frz), upd_ne zd]; exact z
    · have zd : b ≠ dx := ne_of_none z n
      rw [upd_ne zd, upd_ne (at_ne ea z exo_xd), upd_ne zd]; exact z
  · rw [upd_ne hb2, upd_ne hb1, upd_ne hb2]
  · rw [upd_ne ne.symm, upd_same]
  · rw [upd_same]; rfl
/-- __init__(self, x1): super().__init__(x1); self.x1 = x1 -/
theorem init1_ok {k : Nat} {x1 qual : Str} {params : Arguments} {scope : Scope} {dV kV doc pm ct oc : Value} {an od : Option Addr} {osl : Array (Option Value)} {ar : Arg} {p0 p1 p2 p3 p4 p5 p6 p7 p8 p9 p10 p11 p12 p13 p14 : Pos}
    (Z : XTxt P K mg C f cda cc)
    (lk : K.lookup f = some ⟨oc, od, .func (fnX "__init__" qual params [.Expr (.Call (.Attribute (.Call (.Name "super" p0) [] [] p1) "__init__" p2) [.Name x1 p3] [] p5) p6, .Assign [.Attribute (.Name "self" p7) x1 p8] (.Name x1 p9) p10] scope [("__class__", cc)] dV kV doc pm an (.ref cda) ct), osl⟩)
    (hcd : codeIn K (.ref cda) qual = true) (hp : (params.posonlyargs ++ params.args).head? = some ar) (har : ar.arg = "self") (nd : (["self", x1] : List Str).Nodup)
    (hk : scope.kind = .function) (hco : scope.isCoroutine = false) (hgen : scope.isGenerator = false) (hcell : ∀ x ∈ scope.names, x.2 ≠ .cell) (hks : scope.names.lookup ("super" : Str) = some .globalImplicit) (hkc : scope.names.lookup ("__class__" : Str) = some .free)
    (hka : scope.names.lookup ("self" : Str) = some .local) (hk1 : scope.names.lookup x1 = some .local) (hd1 : (x1 == ("__debug__" : Str)) = false)
    (no1 : findIn K (.ref C) x1 = some none)
    (hev : ∀ L : Addr, ∃ pl : Sem Bool, eval (.Call (.Attribute (.Call (.Name "super" p0) [] [] p1) "__init__" p2) [.Name x1 p3] [] p5) (ksEnv qual scope L f (.ref cda) cc) = (do
      let ov ← attributeBase (.Call (.Name "super" p0) [] [] p1) "__init__" (ksEnv qual scope L f (.ref cda) cc) (eval (.Call (.Name "super" p0) [] [] p1) (ksEnv qual scope L f (.ref cda) cc))
      standAt p2.atName
      let (g0, first) ← holding [ov] (getMethod ov "__init__" pl)
      callWith p5 g0 first (backTo p5 (starEach [.Name x1 p3] (ksEnv qual scope L f (.ref cda) cc))) [])) :
    FnOk P w K mg base (L2.CX P w) (k + 1) f (fnX "__init__" qual params [.Expr (.Call (.Attribute (.Call (.Name "super" p0) [] [] p1) "__init__" p2) [.Name x1 p3] [] p5) p6, .Assign [.Attribute (.Name "self" p7) x1 p8] (.Name x1 p9) p10] scope [("__class__", cc)] dV kV doc pm an (.ref cda) ct) ["self", x1] (spIx C [x1]) := by
  refine ⟨fun vs H Q E ⟨a, ys, e, hl, _⟩ => by rw [e, List.length_cons, hl]; rfl, fun A outer s H args us vs Q E hr e0 hb r hsp => ?_⟩
  obtain ⟨a, ys, ev, hl, ea, hq⟩ := hsp
  match ys, hl with
  | [y1], _ =>
  subst ev
  refine exi_enter (CX := L2.CX P w) (E := E) lk hcd nd hk hco hgen hcell (fun x hx => ?_) hr e0 hb r rfl fun s1 I => ?_
  · have hx2 : x = "self" ∨ x = x1 := by simpa using hx
    rcases hx2 with z | z
    · rw [z]; exact hka
    · rw [z]; exact hk1
  obtain ⟨m, hn, hm⟩ := I.loc
  have hself : m "self" = some (.ref a) := by
    obtain ⟨u, ru, l⟩ := hm 0 "self" (.ref a) rfl rfl (.inl (lookup_local (List.mem_cons_self ..)))
    rcases l with ⟨_, hu⟩ | ⟨z, _⟩
    · rw [hu, show u = .ref a from ru]
    · have k0 : (sc0 scope ["self", x1]).names.lookup ("self" : Str) = some .local := lookup_local (List.mem_cons_self ..)
      rcases z with z | z
      · have z2 := k0.symm.trans z
        cases z2
      · have z2 := k0.symm.trans z
        cases z2
  obtain ⟨pl, hev⟩ := hev s.heap.objs.size
  refine ks_wpAt_execs_cons (ks_wpAt_Expr_any ?_ (exi_quiet hk) rfl)
  refine sup_init (X := cxOf (L2.CX P w) P w K mg base ["self", x1] qual (sc0 scope ["self", x1]) f (.ref cda) A outer s H E) Z I ea lk hp har hn hself hk hks hkc hka (fun s' J hn' => ?_) rfl rfl hev
  refine args_cons (exi_name (i := 1) J rfl rfl hk hk1 hd1 fun v1 rv1 => ?_) rfl
  refine args_nil ⟨rfl, J, by rw [sizeLine_eq]; exact Nat.le_of_ble_eq_true rfl, fun s3 J3 _ => ?_⟩
  refine ks_wpAt_execs_cons (ks_wpAt_Assign_Attr (_root_.PySem.wpAt_of_wpAny (exi_name (i := 1) J3 rfl rfl hk hk1 hd1 fun v3 rv3 => exi_name (i := 0) J3 rfl rfl hk hka (by decide) fun v4 rv4 => ?_)) rfl)
  obtain rfl : v4 = .ref a := rv4
  refine ost_new Z.T J3 ea no1 rv3 fun dx s4 n ne J4 => ?_
  refine _root_.PySem.wpAt_of_wpAny (wpAny_execs_nil ?_)
  refine ⟨.non, _, J4.os, J4.bare, J4.base, J4.hok, rfl, hq dx _ n ne ?_ (fun b hb1 hb2 => ?_) upd_same ?_⟩
  · refine ⟨fun b xs z => ?_, fun b o v z => ?_, fun b fs z => ?_⟩
    · rw [upd_ne (at_ne ea z exo_tup), upd_ne (ne_of_none z n)]; exact z
    · rw [upd_ne (at_ne ea z exo_frz), upd_ne (ne_of_none z n)]; exact z
    · rw [upd_ne (at_ne ea z exo_xd), upd_ne (ne_of_none z n)]; exact z
  · rw [upd_ne hb1, upd_ne hb2]
  · rw [upd_ne ne, upd_same]; rfl
end
end PD
set_option Elab.async false
set_option linter.all false
set_option maxRecDepth 100000
set_option maxHeartbeats 4000000
/-! PDTry0: try with any clauses, named or not. -/
namespace PD
open PySem PySem.Spec PyProof.Rows L2
/-- a clause: its class, the slot of its name, its suite -/
abbrev Cl := Value × Option Nat × (Addr → Value → Option Addr → TS)
/-- what is wished behind a suite: the name is gone -/
def gone (i : Option Nat) (D : Ends) : Ends := match i with
  | none => D
  | some i => { nx := fun σ H => D.nx (σ.set i none) H, rt := D.rt, bk := fun σ H => D.bk (σ.set i none) H, ct := fun σ H => D.ct (σ.set i none) H }
def bound (i : Option Nat) (a : Addr) (σ : L2.St) : L2.St := match i with
  | none => σ
  | some i => σ.set i (some (.ref a))
def wG (K : PySem.W.Frag) (Wout : WX) (D : Ends) : List Cl → WX
  | [] => Wout
  | (c, i, ts) :: r => fun cls d σ H => ∃ b, PySem.W.exmOne K cls c = some b ∧ (b = true → ∀ a, H a = none → ts a cls d (gone i D) (bound i a σ) H) ∧ (b = false → wG K Wout D r cls d σ H)
inductive HdG (X : Cx) : List ExceptHandler → List Cl → Prop
  | nil : HdG X [] []
  | one {x : Str} {c : Value} {ts : Addr → Value → Option Addr → TS} {st : Stmt} {sts : List Stmt} {p q : Pos} {hds : List ExceptHandler} {l : List Cl} (hc : Names X x c)
      (hsu : ∀ (a : Addr) (oe : Obj) (cls : Value) (d : Option Addr) (pn : List (Addr × Obj)), Zc cls d oe → (∃ vs, oe.data = .fields vs) → PSs (X.suite a ((a, oe) :: pn)) (st :: sts) (ts a cls d)) (r : HdG X hds l) :
      HdG X (.ExceptHandler (some (.Name x p)) none (st :: sts) q :: hds) ((c, none, ts) :: l)
  | as {x n : Str} {i : Nat} {c : Value} {ts : Addr → Value → Option Addr → TS} {st : Stmt} {sts : List Stmt} {p q : Pos} {hds : List ExceptHandler} {l : List Cl} (hc : Names X x c) (hi : X.N[i]? = some n) (hln : X.env.kindOf n = some .local)
      (hsu : ∀ (a : Addr) (oe : Obj) (cls : Value) (d : Option Addr) (pn : List (Addr × Obj)), Zc cls d oe → (∃ vs, oe.data = .fields vs) → PSs (X.suite a ((a, oe) :: pn)) (st :: sts) (ts a cls d)) (r : HdG X hds l) :
      HdG X (.ExceptHandler (some (.Name x p)) (some n) (st :: sts) q :: hds) ((c, some i, ts) :: l)
section
variable {X : Cx} {body : List Stmt} {h0 : ExceptHandler} {hds : List ExceptHandler} {l : List Cl} {pos : Pos} {tb : WX → TS} {Wout : WX}
theorem ps_tryG (hst : X.stack = X.env :: X.outer) (hfr : X.env.frame = some X.env.locals) (hN : X.N.Nodup) (tk : Takes X Wout)
    (hb : ∀ (W : WX) (pn : List (Addr × Obj)) (xe : Value → Shared → Prop), Takes (X.tr pn xe) W → PassesOwn (model X.prog X.w) X.A X.env xe → PSs (X.tr pn xe) body (tb W))
    (hh : HdG X (h0 :: hds) l) : PS X (.Try body (h0 :: hds) [] [] pos) (fun D σ H => tb (wG X.K Wout D l) D σ H) := ⟨fun pins s σ H D I h => by
  have ok := I.ok
  have fr2 : X.A.frames = some (X.env :: X.outer) := ok.frames.trans (by rw [hst])
  refine wpAny_Try_except ?_
  have catch_ : ∀ u s', XE (X.tr (X.pn ++ pins) (fun e s₁ => wpAny (model X.prog X.w) X.A (noteFrame e X.env) (fun _ s₂ => wpAny (model X.prog X.w) X.A (setFlight e none) (fun _ s₃ =>
      wpAny (model X.prog X.w) X.A (handleBy e X.env (h0 :: hds)) (SP X pins D) X.xe s₃) X.xe s₂) X.xe s₁)) (wG X.K Wout D l) u s' → wpAny (model X.prog X.w) X.A (noteFrame u X.env) (fun _ s₂ => wpAny (model X.prog X.w) X.A (setFlight u none) (fun _ s₃ =>
      wpAny (model X.prog X.w) X.A (handleBy u X.env (h0 :: hds)) (SP X pins D) X.xe s₃) X.xe s₂) X.xe s' := fun u s' xx => by
    obtain ⟨a, B, sI, pins', σ', H', cls, d, eu, J', nb, up, sky, na, os, ag, wish⟩ := xx
    subst eu
    have J : Inv X pins σ' H' sI := J'.ofTry ok
    refine Sky.land Zc.steady fr2 hfr (show Sky B (X.env :: X.outer) a (Zc cls d) X.env.locals s'.heap by rw [← hst]; exact sky) fun h3 fl3 up3 => ?_
    have J3 : Inv X pins σ' H' ({ s' with heap := h3 } : Shared) := J.landed nb fl3.1 (up.trans up3) os ag
    obtain ⟨oe3, vs3, he3, hz3, hd3⟩ := fl3.there
    have inFr : a ∉ frs (X.env :: X.outer) := fun hm => by
      obtain ⟨_, o', e', hnf⟩ := fl3.2.2.1.mem hm
      cases he3.symm.trans e'
      exact hnf _ hd3
    have nL : a ≠ X.env.locals := fun z => inFr (List.mem_filterMap.mpr ⟨X.env, List.mem_cons_self, hfr.trans (by rw [z])⟩)
    have nF : a ∉ X.fs := fun hm => by
      obtain ⟨e, m, q⟩ := List.mem_filterMap.mp hm
      exact inFr (List.mem_filterMap.mpr ⟨e, List.mem_cons_of_mem _ m, q⟩)
    have S3 := J3.suite he3 hd3 na nL nF
    have LT : PySem.W.Looks (model X.prog X.w) h3 (typeOf (.ref a)) cls := fun _ _ _ _ k q => wpAny_typeOf_ref (k _ _ he3) (by rw [hz3.1]; exact q)
    have test : ∀ {x : Str} {c : Value} {p : Pos} {Q : Value → Shared → Prop} {E : Value → Shared → Prop}, Names X x c → Q c { s' with heap := h3 } → wpAny (model X.prog X.w) (X.A.mark (some (.ref a))) (eval (.Name x p) X.env) Q E { s' with heap := h3 } := fun {x c p Q E} hc q => by
      obtain ⟨hg, hdbg, hm | ⟨hm, hv, hnn⟩⟩ := hc
      · exact ld_glob (X := X.suite a ((a, oe3) :: (X.pn ++ pins))) S3 hg hm q hdbg
      · exact ld_blt (X := X.suite a ((a, oe3) :: (X.pn ++ pins))) S3 hg hm hv q hnn hdbg
    have go : ∀ {hs' : List ExceptHandler} {l' : List Cl}, HdG X hs' l' → wG X.K Wout D l' cls d σ' H' → wpAny (model X.prog X.w) X.A (handleBy (.ref a) X.env hs') (SP X pins D) X.xe { s' with heap := h3 } := by
      intro hs' l' hk
      induction hk with
      | nil =>
        intro wish
        refine wpAny_handleBy_nil ?_
        obtain ⟨k1, k2, k3, oe, vs, T, oT, ts', he, hz, hd, h1, hr⟩ := id fl3
        unfold PySem.passOn
        refine wpAny_bind (wpAny_field he hd h1 ?_)
        rw [if_neg (fun z => by simp at z)]
        have fin : wpAny (model X.prog X.w) X.A (setFlight (.ref a) X.env.frame) (fun _ s4 => wpAny (model X.prog X.w) X.A (throw (.ref a) : Sem Flow) (SP X pins D) X.xe s4) X.xe { s' with heap := h3 } := by
          rw [hfr]
          exact HandSPX.setFlight_upZ fl3 fun h4 hh4 up4 => wpAny_throw (tk _ _ ⟨a, B, sI, pins, σ', H', cls, d, rfl, J, nb, (up.trans up3).trans up4, .inr (.inr (by rw [hst]; exact hh4)), na, os, ag, wish⟩)
        first
          | exact wpAny_bind (wpAny_pure (wpAny_bind fin))
          | exact wpAny_bind fin
      | @one x c ts st sts p q hds2 l2 hc hsu r ih =>
        intro ⟨b, hb1, hyes, hno⟩
        refine wpAny_handleBy_cons (codeAny_handlers_test (test hc ((PySem.W.exm_one (M := model X.prog X.w) J3.kIn LT hb1).here ?_))) (by intro q; cases q)
        cases b with
        | false => exact ih (hno rfl)
        | true =>
          refine codeAny_handlers_suite (HandSPX.lands_againZ fl3 fun h4 fl4 up4 => ?_)
          obtain ⟨oe4, vs4, he4, hz4, hd4⟩ := fl4.there
          have S4 := (show Inv X pins σ' H' ({ s' with heap := h4 } : Shared) from J.landed nb fl4.1 ((up.trans up3).trans up4) os ag).suite he4 hd4 na nL nF
          refine wpAny_mono ((hsu a oe4 cls d (X.pn ++ pins) hz4 ⟨_, hd4⟩).run [] _ _ H' _ S4 (hyes rfl a na)) (fun f s6 hsp => ?_) (fun _ _ z => False.elim z)
          cases f with
          | ret u => obtain ⟨v6, σ6, H6, S6, r6, q6⟩ := hsp; exact ⟨_, _, _, S6.unsuite ok, r6, q6⟩
          | next => obtain ⟨σ6, H6, S6, q6⟩ := hsp; exact ⟨_, _, S6.unsuite ok, q6⟩
          | brk => obtain ⟨σ6, H6, S6, q6⟩ := hsp; exact ⟨_, _, S6.unsuite ok, q6⟩
          | cont => obtain ⟨σ6, H6, S6, q6⟩ := hsp; exact ⟨_, _, S6.unsuite ok, q6⟩
      | @as x n i c ts st sts p q hds2 l2 hc hi hln hsu r ih =>
        intro ⟨b, hb1, hyes, hno⟩
        refine wpAny_handleBy_cons (codeAny_handlers_test (test hc ((PySem.W.exm_one (M := model X.prog X.w) J3.kIn LT hb1).here ?_))) (by intro q; cases q)
        cases b with
        | false => exact ih (hno rfl)
        | true =>
          refine codeAny_handlers_suite_as (HandSPX.lands_againZ fl3 fun h4 fl4 up4 => ?_)
          obtain ⟨oe4, vs4, he4, hz4, hd4⟩ := fl4.there
          have S4 := (show Inv X pins σ' H' ({ s' with heap := h4 } : Shared) from J.landed nb fl4.1 ((up.trans up3).trans up4) os ag).suite he4 hd4 na nL nF
          refine store_ok (X := X.suite a ((a, oe4) :: (X.pn ++ pins))) (v := .ref a) S4 hN hi (.inl hln) rfl (fun s5 S5 => ?_) (.inr hln)
          refine wpAny_mono ((hsu a oe4 cls d (X.pn ++ pins) hz4 ⟨_, hd4⟩).run [] s5 _ H' _ S5 (hyes rfl a na)) (fun f s6 hsp => ?_) (fun _ _ z => False.elim z)
          cases f with
          | ret u => obtain ⟨v6, σ6, H6, S6, r6, q6⟩ := hsp; exact gone_ok (S6.unsuite ok) hN hi hln fun s7 J7 => ⟨_, _, _, J7, r6, q6⟩
          | next => obtain ⟨σ6, H6, S6, q6⟩ := hsp; exact gone_ok (S6.unsuite ok) hN hi hln fun s7 J7 => ⟨_, _, J7, q6⟩
          | brk => obtain ⟨σ6, H6, S6, q6⟩ := hsp; exact gone_ok (S6.unsuite ok) hN hi hln fun s7 J7 => ⟨_, _, J7, q6⟩
          | cont => obtain ⟨σ6, H6, S6, q6⟩ := hsp; exact gone_ok (S6.unsuite ok) hN hi hln fun s7 J7 => ⟨_, _, J7, q6⟩
    exact go hh wish
  refine wpAny_mono ((hb (wG X.K Wout D l) (X.pn ++ pins) _ (fun u s' xx => catch_ u s' xx) PassesOwn.looking).run [] s σ H D (I.toTry _) h) (fun f s1 hsp => ?_) (fun e s1 he => he)
  cases f with
  | ret u => obtain ⟨v, σ', H', J', r, q⟩ := hsp; exact ⟨v, σ', H', J'.ofTry ok, r, q⟩
  | next => obtain ⟨σ', H', J', q⟩ := hsp; exact wpAny_execs_nil ⟨σ', H', J'.ofTry ok, q⟩
  | brk => obtain ⟨σ', H', J', q⟩ := hsp; exact ⟨σ', H', J'.ofTry ok, q⟩
  | cont => obtain ⟨σ', H', J', q⟩ := hsp; exact ⟨σ', H', J'.ofTry ok, q⟩⟩
end
end PD
set_option Elab.async false
set_option linter.all false
set_option maxRecDepth 100000
set_option maxHeartbeats 4000000
/-! PDTry: raise, try, fields of caught exceptions, on data. -/
namespace PD
open PySem PySem.Spec PyProof.Rows L2
theorem PS_imp2 {X : Cx} {st : Stmt} {t t' : TS} (h : PS X st t) (f : ∀ D σ H, t' D σ H → t D σ H) : PS X st t' := ⟨fun pins s σ H D I q => h.run pins s σ H D I (f D σ H q)⟩
theorem StR.keep {K : PySem.W.Frag} {H H' : Hp} {μ : Sto} (h : StR K H μ) (t : Tp H H') (k : ∀ p vs, H p = some (.lst vs) → H' p = some (.lst vs)) : StR K H' μ := fun a o e => by
  cases o with
  | lst xs =>
    obtain ⟨vs, q, r⟩ := h a _ e
    exact ⟨vs, k _ _ q, r.tp t⟩
theorem zip_fst : ∀ (a : List Str) (b : List D), b.length = a.length → (a.zip b).map (·.1) = a
  | [], [], _ => rfl
  | x :: a, y :: b, h => by rw [List.zip_cons_cons, List.map_cons, zip_fst a b (by simpa using h)]
theorem zip_snd : ∀ (a : List Str) (b : List D), b.length = a.length → (a.zip b).map (·.2) = b
  | [], [], _ => rfl
  | x :: a, y :: b, h => by rw [List.zip_cons_cons, List.map_cons, zip_snd a b (by simpa using h)]
theorem zip_rev {β : Type} : ∀ (a : List Str) (b : List β), b.length = a.length → a.reverse.zip b.reverse = (a.zip b).reverse
  | [], [], _ => rfl
  | x :: a, y :: b, h => by
    have hl : b.length = a.length := by simpa using h
    rw [List.zip_cons_cons, List.reverse_cons, List.reverse_cons, List.reverse_cons, ← zip_rev a b hl, List.zip_append (by rw [List.length_reverse, List.length_reverse]; exact hl.symm)]
    rfl
section
variable {X : Cx} {W : WX} {e : Expr} {es : List Expr} {tr : DA}
theorem ds_raise {cn : Str} {C fI : Addr} {fs : List Str} {k : Nat} {fd : FuncData} {p pos q : Pos} (hc : X.calm = true) (tk : Takes X W) (T : OexC X.K C) (iC : PySem.W.findIn X.K (.ref C) "__init__" = some (some (.ref fI))) (tI : PySem.W.typeIn X.K (.ref fI) = some (.type "function"))
    (F : FnOk X.prog X.w X.K X.mg X.base (L2.CX X.prog X.w) k fI fd ("self" :: fs) (spIx C fs)) (hr : Room (k + 1) X.A) (hb : Binds X.K fd ("self" :: fs) []) (hg : Gl X cn) (hm : X.mg cn = some (.ref C)) (hfs : fs.length ≤ 900) (ha : PDA X W (e :: es) tr)
    (hdb : (cn == ("__debug__" : Str)) = false := by decide) (he : starEach (e :: es) X.env = (false, eval e X.env) :: starEach es X.env := by rfl) (hpl : (backTo pos (starEach es X.env)).any (·.1) = false := by rfl) :
    PDS X W (.Raise (some (.Call (.Name cn p) (e :: es) [] pos)) none q) (sRaise cn fs tr) where
  mono := fun A B ρ μ le h => ha.mono ρ μ _ _ _ _ (fun ds μ1 z => ⟨z.1, le.ex _ _ _ z.2⟩) (fun x μ1 z => le.ex _ _ _ z) h
  run := PS_imp2 (ps_raise hc tk (pmk_oex T iC tI F hr hb .nil (fun _ _ _ _ _ _ _ z => by obtain ⟨_, _, _, _, _, _, _, _, _, _, _, _, w⟩ := z; exact w.elim) hg hm ha.run hdb he hpl)) fun D σ H ⟨ρ, μ, en, st, h⟩ =>
    ⟨ρ, μ, en, st, ha.mono ρ μ _ _ _ _ (fun ds μ1 z vs H1 t1 s1 r1 => by
      obtain ⟨hl, z⟩ := z
      have hl2 : vs.length = fs.length := by rw [← r1.len]; exact hl
      refine ⟨by omega, fun a na => ⟨a, vs, by rw [List.append_nil], hl2, upd_same, fun dx H2 hn ne tp eq ea ed => ⟨rfl, dx, _, ea, ed, ?_, ?_⟩⟩⟩
      · rw [upd_ne ne] at hn; exact hn
      have hn1 : H1 dx = none := by rw [upd_ne ne] at hn; exact hn
      have keep : ∀ b o, H1 b = some o → (upd (del H2 a) dx (.xd ((fs.zip vs).reverse))) b = some o := fun b o hb => by
        have b1 : b ≠ a := ne_of_none hb na
        have b2 : b ≠ dx := ne_of_none hb hn1
        rw [upd_ne b2, del_ne b1, eq b b1 b2, upd_ne b1]; exact hb
      have tp2 : Tp H1 (upd (del H2 a) dx (.xd ((fs.zip vs).reverse))) := ⟨fun b _ q => keep b _ q, fun b _ _ q => keep b _ q, fun b _ q => keep b _ q⟩
      refine z (.ref C) (some dx) σ _ (t1.trans tp2) (en.tp (t1.trans tp2)) (s1.keep tp2 fun b _ q => keep b _ q) ⟨C, dx, _, vs.reverse, hm, rfl, rfl, upd_same, ?_, fun f u q => ?_⟩
      · rw [List.map_reverse, zip_snd fs ds hl]
        exact (r1.tp tp2).reverse
      · rw [List.map_reverse, zip_fst fs ds hl, zip_rev fs vs hl2] at q
        exact q) (fun x μ1 z cls d H1 t1 s1 x1 => z cls d σ H1 t1 (en.tp t1) s1 x1) h⟩
end
/-! ### try -/
/-- what an own exception's class must have for the fields FL to be read -/
structure XF (K : PySem.W.Frag) (FL : List Str) (C : Addr) : Prop where
  xf : XfC K C
  no : ∀ f ∈ FL, PySem.W.findIn K (.ref C) f = some none
def W00 : WX := fun _ _ _ _ => False
/-- what the written part says of a clause's class -/
structure ClX (X : Cx) (isa : Str → Str → Option Bool) (FL : List Str) (n : Str) (C : Addr) : Prop where
  gl : Gl X n
  mg : X.mg n = some (.ref C)
  db : (n == ("__debug__" : Str)) = false
  xf : XF X.K FL C
  isa : ∀ (x : Str) (b : Bool) (c : Addr), isa x n = some b → X.mg x = some (.ref c) → PySem.W.exmOne X.K (.ref c) (.ref C) = some b ∧ XF X.K FL c
abbrev SuOk (X : Cx) (FL : List Str) (st : Stmt) (sts : List Stmt) (sd : Nat → Nat → DS) : Prop :=
  ∀ (a : Addr) (oe : Obj) (c dd : Addr) (pn : List (Addr × Obj)), XF X.K FL c → Zc (.ref c) (some dd) oe → (∃ vs, oe.data = .fields vs) → PDSs (X.suite a ((a, oe) :: pn)) W00 (st :: sts) (sd a dd)
inductive HdD (X : Cx) (isa : Str → Str → Option Bool) (FL : List Str) : List ExceptHandler → List DCl → Prop
  | nil : HdD X isa FL [] []
  | one {n : Str} {C : Addr} {sd : Nat → Nat → DS} {st : Stmt} {sts : List Stmt} {p q : Pos} {hds : List ExceptHandler} {l : List DCl} (hc : ClX X isa FL n C) (hsu : SuOk X FL st sts sd) (r : HdD X isa FL hds l) :
      HdD X isa FL (.ExceptHandler (some (.Name n p)) none (st :: sts) q :: hds) ((n, none, sd) :: l)
  | as {n v : Str} {i : Nat} {C : Addr} {sd : Nat → Nat → DS} {st : Stmt} {sts : List Stmt} {p q : Pos} {hds : List ExceptHandler} {l : List DCl} (hi : X.N[i]? = some v) (hln : X.env.kindOf v = some .local) (hc : ClX X isa FL n C) (hsu : SuOk X FL st sts sd) (r : HdD X isa FL hds l) :
      HdD X isa FL (.ExceptHandler (some (.Name n p)) (some v) (st :: sts) q :: hds) ((n, some i, sd) :: l)
/-- a suite as the machine reads it -/
def suT (K : PySem.W.Frag) (mg : Str → Option Value) (FL : List Str) (sd : Nat → Nat → DS) : Addr → Value → Option Addr → TS := fun a cls d D σ H => ∃ (c dd : Addr) (ρ : Ev) (μ : Sto), cls = .ref c ∧ d = some dd ∧ XF K FL c ∧ EnR K H ρ σ ∧ StR K H μ ∧ sd a dd (DL K mg W00 H D) ρ μ
theorem su_run {X : Cx} {FL : List Str} {st : Stmt} {sts : List Stmt} {sd : Nat → Nat → DS} (h : SuOk X FL st sts sd) (a : Addr) (oe : Obj) (cls : Value) (d : Option Addr) (pn : List (Addr × Obj)) (hz : Zc cls d oe) (hf : ∃ vs, oe.data = .fields vs) :
    PSs (X.suite a ((a, oe) :: pn)) (st :: sts) (suT X.K X.mg FL sd a cls d) := ⟨fun pins s σ H D I ⟨c, dd, ρ, μ, ec, ed, xf, en, sr, q⟩ => by
  subst ec ed
  exact (h a oe c dd pn xf hz hf).run.run pins s σ H D I ⟨ρ, μ, en, sr, q⟩⟩
def clsOf (X : Cx) (FL : List Str) (mgC : Str → Addr) : List DCl → List Cl := List.map fun p => (.ref (mgC p.1), p.2.1, suT X.K X.mg FL p.2.2)
theorem EnR.unset {K : PySem.W.Frag} {H : Hp} {ρ : Ev} {σ : L2.St} (e : EnR K H ρ σ) (i : Nat) : EnR K H (setE ρ i none) (σ.set i none) := by
  refine ⟨by rw [List.length_set, ← e.1]; exact setE_len ρ i none, fun j d h => ?_⟩
  rw [look_set] at h
  by_cases hj : j = i ∧ i < ρ.length
  · rw [if_pos hj] at h; cases h
  · rw [if_neg hj] at h
    obtain ⟨v, hv, r⟩ := e.2 j d h
    refine ⟨v, ?_, r⟩
    by_cases hji : i = j
    · subst hji
      have : i < σ.length := by
        rcases Nat.lt_or_ge i σ.length with z | z
        · exact z
        · rw [List.getElem?_eq_none z] at hv; cases hv
      exact absurd ⟨rfl, by rw [e.1]; exact this⟩ hj
    · rw [List.getElem?_set_ne hji]; exact hv
section
variable {X : Cx} {Wout : WX} {isa : Str → Str → Option Bool} {FL : List Str}
theorem hd_g {hds : List ExceptHandler} {dl : List DCl} (h : HdD X isa FL hds dl) : ∃ l : List Cl, HdG X hds l ∧ ∀ (D : Ends) (H0 : Hp) (x : Ex) (ρ1 : Ev) (μ1 : Sto), catchW isa (DL X.K X.mg Wout H0 D) x dl ρ1 μ1 →
    ∀ cls d σ' H', Tp H0 H' → EnR X.K H' ρ1 σ' → StR X.K H' μ1 → ExR X.K X.mg H' x cls d → wG X.K Wout D l cls d σ' H' := by
  induction h with
  | nil => exact ⟨[], .nil, fun D H0 x ρ1 μ1 h cls d σ' H' t en sr ex => h cls d σ' H' t en sr ex⟩
  | @one n C sd st sts p q hds l hc hsu r ih =>
    obtain ⟨l', h1, h2⟩ := ih
    refine ⟨(.ref C, none, suT X.K X.mg FL sd) :: l', .one ⟨hc.gl, hc.db, .inl hc.mg⟩ (su_run hsu) h1, fun D H0 x ρ1 μ1 h cls d σ' H' t en sr ex => ?_⟩
    obtain ⟨c, dd, fs, us, g1, g2, g3, g4, g5, g6⟩ := id ex
    unfold catchW at h
    cases hi : isa x.cls n with
    | none => rw [hi] at h; exact h.elim
    | some b =>
      rw [hi] at h
      obtain ⟨k1, k2⟩ := hc.isa _ _ _ hi g1
      refine ⟨b, by rw [g2]; exact k1, fun hb a na => ?_, fun hb => ?_⟩
      · subst hb
        refine ⟨c, dd, ρ1, μ1, g2, g3, k2, en, sr, (hsu a ⟨.ref c, some dd, .fields #[], #[]⟩ c dd [] k2 ⟨rfl, rfl⟩ ⟨_, rfl⟩).mono _ _ _ _ ?_ (h a dd)⟩
        exact ⟨fun _ _ k => NL.later t k, fun _ _ k => QL.later t k, fun _ _ k => NL.later t k, fun _ _ k => NL.later t k, fun _ _ _ k => k.elim⟩
      · subst hb
        exact h2 D H0 x ρ1 μ1 h cls d σ' H' t en sr ex
  | @as n v i C sd st sts p q hds l hi0 hln hc hsu r ih =>
    obtain ⟨l', h1, h2⟩ := ih
    refine ⟨(.ref C, some i, suT X.K X.mg FL sd) :: l', .as ⟨hc.gl, hc.db, .inl hc.mg⟩ hi0 hln (su_run hsu) h1, fun D H0 x ρ1 μ1 h cls d σ' H' t en sr ex => ?_⟩
    obtain ⟨c, dd, fs, us, g1, g2, g3, g4, g5, g6⟩ := id ex
    unfold catchW at h
    cases hi : isa x.cls n with
    | none => rw [hi] at h; exact h.elim
    | some b =>
      rw [hi] at h
      obtain ⟨k1, k2⟩ := hc.isa _ _ _ hi g1
      refine ⟨b, by rw [g2]; exact k1, fun hb a na => ?_, fun hb => ?_⟩
      · subst hb
        have un : ∀ {R : L2.St → Hp → Prop} {ρ2 : Ev} {μ2 : Sto}, NL X.K H0 R (setE ρ2 i none) μ2 → NL X.K H' (fun σ H => R (σ.set i none) H) ρ2 μ2 := fun {R ρ2 μ2} k σ2 H2 t2 e2 s2 => k _ H2 (t.trans t2) (e2.unset i) s2
        refine ⟨c, dd, boundE (some i) (exD x a dd) ρ1, μ1, g2, g3, k2, en.set i (mk_exv g4 g5 g6), sr, (hsu a ⟨.ref c, some dd, .fields #[], #[]⟩ c dd [] k2 ⟨rfl, rfl⟩ ⟨_, rfl⟩).mono _ _ _ _ ?_ (h a dd)⟩
        exact ⟨fun _ _ k => un k, fun _ _ k => QL.later t k, fun _ _ k => un k, fun _ _ k => un k, fun _ _ _ k => k.elim⟩
      · subst hb
        exact h2 D H0 x ρ1 μ1 h cls d σ' H' t en sr ex
theorem catch_mono {A B : DK} (le : DK.Le A B) {x : Ex} {hds : List ExceptHandler} {dl : List DCl} (h : HdD X isa FL hds dl) : ∀ ρ μ, catchW isa A x dl ρ μ → catchW isa B x dl ρ μ := by
  induction h with
  | nil => exact fun ρ μ h => le.ex _ _ _ h
  | @one n C sd st sts p q hds l hc hsu r ih =>
    intro ρ μ h
    unfold catchW at h ⊢
    cases hi : isa x.cls n with
    | none => rw [hi] at h; exact h.elim
    | some b =>
      rw [hi] at h
      cases b with
      | false => exact ih ρ μ h
      | true =>
        intro a d
        refine (hsu a ⟨.ref C, some d, .fields #[], #[]⟩ C d [] hc.xf ⟨rfl, rfl⟩ ⟨_, rfl⟩).mono _ _ _ _ ?_ (h a d)
        exact ⟨fun _ _ k => le.nx _ _ k, fun _ _ k => le.rt _ _ k, fun _ _ k => le.bk _ _ k, fun _ _ k => le.ct _ _ k, fun _ _ _ k => k⟩
  | @as n v i C sd st sts p q hds l hi0 hln hc hsu r ih =>
    intro ρ μ h
    unfold catchW at h ⊢
    cases hi : isa x.cls n with
    | none => rw [hi] at h; exact h.elim
    | some b =>
      rw [hi] at h
      cases b with
      | false => exact ih ρ μ h
      | true =>
        intro a d
        refine (hsu a ⟨.ref C, some d, .fields #[], #[]⟩ C d [] hc.xf ⟨rfl, rfl⟩ ⟨_, rfl⟩).mono _ _ _ _ ?_ (h a d)
        exact ⟨fun _ _ k => le.nx _ _ k, fun _ _ k => le.rt _ _ k, fun _ _ k => le.bk _ _ k, fun _ _ k => le.ct _ _ k, fun _ _ _ k => k⟩
theorem ds_try {body : List Stmt} {h0 : ExceptHandler} {hds : List ExceptHandler} {dl : List DCl} {tb : DS} {pos : Pos} (hst : X.stack = X.env :: X.outer) (hfr : X.env.frame = some X.env.locals) (hN : X.N.Nodup) (tk : Takes X Wout) (po : PassesOwn (model X.prog X.w) X.A X.env X.xe)
    (hb : ∀ (W : WX) (pn : List (Addr × Obj)) (xe : Value → Shared → Prop), Takes (X.tr pn xe) W → PassesOwn (model X.prog X.w) X.A X.env xe → PDSs (X.tr pn xe) W body tb) (hh : HdD X isa FL (h0 :: hds) dl) :
    PDS X Wout (.Try body (h0 :: hds) [] [] pos) (sTry isa tb dl) where
  mono := fun A B ρ μ le h => by
    refine (hb Wout X.pn X.xe tk po).mono _ _ ρ μ ?_ h
    exact ⟨le.nx, le.rt, le.bk, le.ct, fun x ρ1 μ1 k => catch_mono le hh ρ1 μ1 k⟩
  run := by
    obtain ⟨l, h1, h2⟩ := hd_g (Wout := Wout) hh
    refine PS_imp2 (ps_tryG (tb := fun W => lS X.K X.mg W tb) hst hfr hN tk (fun W pn xe tk2 po2 => (hb W pn xe tk2 po2).run) h1) fun D σ H q0 => by
      obtain ⟨ρ, μ, en, sr, q⟩ := q0
      refine ⟨ρ, μ, en, sr, (hb Wout X.pn X.xe tk po).mono _ _ ρ μ ?_ q⟩
      exact ⟨fun _ _ k => k, fun _ _ k => k, fun _ _ k => k, fun _ _ k => k, fun x ρ1 μ1 k cls d σ' H' t e2 s2 ex => h2 D H x ρ1 μ1 k cls d σ' H' t e2 s2 ex⟩
end
/-! ### the field of a caught exception -/
theorem de_fld {X : Cx} {FL : List Str} {a c dd : Addr} {oe : Obj} {pn : List (Addr × Obj)} {e : Expr} {te : DE} {pos : Pos} {n : Str} (xf : XF X.K FL c) (hz : Zc (.ref c) (some dd) oe) (hf : ∃ vs, oe.data = .fields vs) (hn : n ∈ FL) (he : PDE (X.suite a ((a, oe) :: pn)) W00 e te)
    (hb : attributeBase e n X.env (eval e X.env) = eval e X.env := by rfl) : PDE (X.suite a ((a, oe) :: pn)) W00 (.Attribute e n pos) (dFld a dd n te) where
  mono := fun ρ μ Q Q' E E' hq hx h => he.mono ρ μ _ _ _ _ (fun x μ1 z => by
    unfold fldR at z ⊢
    cases x <;> first | exact z.elim | exact ⟨z.1, opt_mono (fun y k => hq _ _ k) z.2⟩) hx h
  run := PE_imp (pe_xf xf.xf (xf.no n hn) hz hf he.run hb) fun σ H Q ⟨ρ, μ, en, sr, h⟩ => ⟨ρ, μ, en, sr, he.mono ρ μ _ _ _ _ (fun x μ1 z v H1 t1 s1 r1 => by
    unfold fldR at z
    cases x with
    | exv a' d' ns xs =>
      obtain ⟨⟨e1, e2⟩, z⟩ := z
      subst e1 e2
      obtain ⟨y, ey, z⟩ := opt_ex z
      obtain ⟨ev, fs, us, g1, g2, g3⟩ := rep_exv r1
      have look2 : ∀ (ns : List Str) (xs : List D) (us : List V), RepL X.K H1 xs us → (ns.zip xs).lookup n = some y → ∃ u, (ns.zip us).lookup n = some u ∧ Rep X.K H1 y u := by
        intro ns
        induction ns with
        | nil => intro xs us _ h; cases h
        | cons m ns ih =>
          intro xs us rr h
          cases xs with
          | nil => cases h
          | cons x xs =>
            obtain ⟨u, us', eu, r2, r3⟩ := repl_cons rr
            subst eu
            rw [List.zip_cons_cons, List.lookup_cons] at h ⊢
            cases hm : (n == m) with
            | true => rw [hm] at h; cases h; exact ⟨u, rfl, r2⟩
            | false => rw [hm] at h; exact ih xs us' r3 h
      obtain ⟨u, eu, ru⟩ := look2 ns xs us g2 ey
      exact ⟨ev, rfl, _, fs, u, rfl, g1, g3 _ _ eu, z u H1 t1 s1 ru⟩
    | _ => exact z.elim) (fun _ _ z => z) h⟩
end PD
namespace PD
open PySem PySem.Spec PyProof.Rows L2
/-- what a table of classes and clauses must keep for the clause n, its class at C -/
def IsaOk (K : PySem.W.Frag) (mg : Str → Option Value) (FL : List Str) (n : Str) (C : Addr) (L : List ((Str × Str) × Bool)) : Prop := ∀ (x : Str) (b : Bool) (c : Addr), L.lookup (x, n) = some b → mg x = some (.ref c) → PySem.W.exmOne K (.ref c) (.ref C) = some b ∧ XF K FL c
section
variable {K : PySem.W.Frag} {mg : Str → Option Value} {FL : List Str} {n : Str} {C : Addr} {L : List ((Str × Str) × Bool)}
theorem isa_nil : IsaOk K mg FL n C [] := fun _ _ _ h => by cases h
theorem isa_skip {x m : Str} {b : Bool} (ne : n ≠ m) (r : IsaOk K mg FL n C L) : IsaOk K mg FL n C (((x, m), b) :: L) := fun y b' c h hc => by
  rw [List.lookup_cons] at h
  have e : ((y, n) == (x, m)) = false := by
    refine beq_eq_false_iff_ne.mpr fun z => ne ?_
    injection z
  rw [e] at h
  exact r y b' c h hc
theorem isa_hit {x : Str} {b : Bool} {cx : Addr} (hx : mg x = some (.ref cx)) (em : PySem.W.exmOne K (.ref cx) (.ref C) = some b) (xf : XF K FL cx) (r : IsaOk K mg FL n C L) : IsaOk K mg FL n C (((x, n), b) :: L) := fun y b' c h hc => by
  rw [List.lookup_cons] at h
  by_cases hy : y = x
  · subst hy
    rw [show ((y, n) == (y, n)) = true from beq_self_eq_true _] at h
    cases h
    rw [hx] at hc
    cases hc
    exact ⟨em, xf⟩
  · have e : ((y, n) == (x, n)) = false := beq_eq_false_iff_ne.mpr fun z => hy (by injection z)
    rw [e] at h
    exact r y b' c h hc
end
theorem exm_of {K : PySem.W.Frag} {c C : Addr} {b : Bool} (h1 : PySem.W.subIn K (.ref C) (.type "BaseException") = some true) (h2 : PySem.W.isClsIn K C = true) (h3 : PySem.W.typeIn K (.ref C) = some (.type "type")) (h4 : PySem.W.subIn K (.ref c) (.ref C) = some b) : PySem.W.exmOne K (.ref c) (.ref C) = some b := by
  unfold PySem.W.exmOne PySem.W.kitCls
  have h2' : (PySem.W.clsIn K C).isSome = true := h2
  simp only [h1, h2', h3, h4]
  rfl
end PD
set_option Elab.async false
set_option linter.all false
set_option maxRecDepth 100000
set_option maxHeartbeats 4000000
/-! PDMore2: list(range(n)), del xs[i]. -/
namespace PD
open PySem PySem.Spec PyProof.Rows L2
section
variable {X : Cx} {W : WX}
theorem rep_rangeL {K : PySem.W.Frag} {H : Hp} (b : Int) : RepL K H (rangeL 0 b.toNat) (rgV 0 b) := by
  have e1 : rangeL 0 b.toNat = ((List.range b.toNat).map fun (k : Nat) => (0 : Int) + (k : Int)).map D.int := by unfold rangeL; rw [List.map_map]; rfl
  have e2 : rgV 0 b = ((List.range b.toNat).map fun (k : Nat) => (0 : Int) + (k : Int)).map V.int := by unfold rgV; rw [List.map_map, Int.sub_zero]; rfl
  rw [e1, e2]; exact mk_ints _
theorem de_listR {a : Expr} {ta : DE} {p p2 pos pos2 : Pos} (hc : X.calm = true) (hg : Gl X "list") (hm : X.mg "list" = none) (hg2 : Gl X "range") (hm2 : X.mg "range" = none) (ha : PDE X W a ta)
    (na : starEach [a] X.env = (false, eval a X.env) :: starEach [] X.env := by rfl)
    (na2 : starEach [.Call (.Name "range" p2) [a] [] pos2] X.env = (false, eval (.Call (.Name "range" p2) [a] [] pos2) X.env) :: starEach [] X.env := by rfl) :
    PDE X W (.Call (.Name "list" p) [.Call (.Name "range" p2) [a] [] pos2] [] pos) (d1 uListR ta) where
  mono := fun ρ μ Q Q' E E' hq hx h => ha.mono ρ μ _ _ _ _ (fun x μ1 z => by
    unfold uListR at z ⊢
    split at z
    · exact ⟨z.1, fun p n => hq _ _ (z.2 p n)⟩
    · exact z) hx h
  run := PE_imp (pe_listRg hc hg hm (prg_1 hg2 hm2 ha.run na) na2) fun σ H Q ⟨ρ, μ, en, hs, h⟩ => ⟨ρ, μ, en, hs, ha.mono ρ μ _ _ _ _ (fun x μ1 z v H1 t1 s1 r1 => by
    unfold uListR at z
    split at z
    · rename_i j
      obtain rfl := rep_int r1
      refine ⟨_, rfl, ⟨by decide, by decide, z.1.1, by have := z.1.2; omega, by have := z.1.2; omega⟩, fun p n => z.2 p (s1.untold n) _ _ (t1.trans (.new n)) (s1.newL n (rep_rangeL j)) mk_loc⟩
    · exact z.elim) (fun _ _ z => z) h⟩
theorem ixN_seq {n : Nat} {i : Int} {j : Nat} (h : ixN n i = some j) : seqIndex? i n = some j := by
  unfold ixN at h
  unfold seqIndex?
  by_cases h0 : 0 ≤ i
  · rw [if_pos h0] at h
    by_cases h1 : i < n
    · rw [if_pos h1] at h
      simp only [show ¬ i < 0 by omega, if_false]
      rw [if_pos (by simp [h0, h1])]; exact h
    · rw [if_neg h1] at h; cases h
  · rw [if_neg h0] at h
    by_cases h1 : -(n : Int) ≤ i
    · rw [if_pos h1] at h
      simp only [show i < 0 by omega, if_true]
      rw [if_pos (by simp; omega)]; exact h
    · rw [if_neg h1] at h; cases h
theorem ds_del {o i : Expr} {to ti : DE} {tpos pos : Pos} (ho : PDE X W o to) (hi : PDE X W i ti) : PDS X W (.Delete [.Subscript o i tpos] pos) (sDel to ti) where
  mono := fun A B ρ μ l h => ho.mono ρ μ _ _ _ _ (fun x μ1 z => hi.mono ρ μ1 _ _ _ _ (fun y μ2 z2 => by
    cases x <;> first | exact z2.elim | skip
    rename_i p
    cases y <;> first | exact z2.elim | skip
    rename_i k
    exact ⟨z2.1, opt_mono (fun xs z3 => opt_mono (fun j z => l.nx _ _ z) z3) z2.2⟩) (fun _ _ z => l.ex _ _ _ z) z) (fun _ _ z => l.ex _ _ _ z) h
  run := PS_imp (ps_delL ho.run hi.run) fun D σ H ⟨ρ, μ, he, hs, h⟩ => ⟨ρ, μ, he, hs, ho.mono ρ μ _ _ _ _ (fun x μ1 z ov H1 t1 s1 r1 =>
    ⟨ρ, μ1, he.tp t1, s1, hi.mono ρ μ1 _ _ _ _ (fun y μ2 z2 iv H2 t2 s2 r2 => by
      cases x <;> first | exact z2.elim | skip
      rename_i p
      cases y <;> first | exact z2.elim | skip
      rename_i k
      obtain ⟨⟨z3, z4⟩, z2⟩ := z2
      obtain ⟨xs, e, z2⟩ := opt_ex z2
      obtain ⟨j, ej, z2⟩ := opt_ex z2
      obtain ⟨vs, hv, rv⟩ := s2.lst e
      exact ⟨p, vs, k, j, rep_loc (r1.tp t2), rep_int r2, hv, z3, z4, by rw [← rv.len]; exact ixN_seq ej, z2 σ _ ((t1.trans t2).trans (.lst hv)) (he.tp ((t1.trans t2).trans (.lst hv))) (s2.setL hv (RepL.erase j rv))⟩) (fun _ _ k => XL.later t1 (ex_xl he k)) z⟩) (fun x μ1 z => ex_xl he z) h⟩
end
end PD
set_option linter.all false
set_option maxRecDepth 100000
/-! PDWp: single steps through what a def asks, backwards, on data alone. -/
namespace PD
open PySem

/-! ### defs -/
theorem pr_mk {n m : Nat} {body : DS} {ds : List D} {μ : Sto} {Q : QE} {E : QX} (hl : ds.length = n)
    (h : body ⟨fun _ μ1 => Q .non μ1, Q, fun _ _ => False, fun _ _ => False, fun x _ μ1 => E x μ1⟩ (ds.map some ++ List.replicate m none) μ) : prBody n m body ds μ Q E :=
  ⟨Q, E, hl, h, fun _ μ1 z => ⟨μ1, Sub.refl _, z⟩, fun _ μ1 z => ⟨μ1, Sub.refl _, z⟩⟩
/-- a def that tells data and leaves the store: what it lays besides is forgotten -/
theorem pr_fun {n m : Nat} {body : DS} {ds : List D} {μ : Sto} {Q : QE} {E : QX} (R : D → Prop) (hl : ds.length = n)
    (h : body ⟨fun _ μ1 => R .non ∧ Sub μ μ1, fun d μ1 => R d ∧ Sub μ μ1, fun _ _ => False, fun _ _ => False, fun _ _ _ => False⟩ (ds.map some ++ List.replicate m none) μ)
    (q : ∀ d, R d → Q d μ) : prBody n m body ds μ Q E :=
  ⟨fun d μ1 => R d ∧ Sub μ μ1, fun _ _ => False, hl, h, fun d μ1 z => ⟨μ, z.2, q d z.1⟩, fun _ _ z => z.elim⟩

/-! ### statements -/
section
variable {nx bk ct : Ev → Sto → Prop} {rt : D → Sto → Prop} {ex : Ex → Ev → Sto → Prop} {ρ ρ' : Ev} {μ : Sto} {t u : DS} {te tf : DE} {tt : DT} {g : DG}
theorem x_seq (h : t ⟨u ⟨nx, rt, bk, ct, ex⟩, rt, bk, ct, ex⟩ ρ μ) : sSeq t u ⟨nx, rt, bk, ct, ex⟩ ρ μ := h
theorem x_next (h : nx ρ μ) : sNext ⟨nx, rt, bk, ct, ex⟩ ρ μ := h
theorem x_break (h : bk ρ μ) : sBreak ⟨nx, rt, bk, ct, ex⟩ ρ μ := h
theorem x_cont (h : ct ρ μ) : sCont ⟨nx, rt, bk, ct, ex⟩ ρ μ := h
theorem x_drop (h : te ρ μ (fun _ μ1 => nx ρ μ1) (fun x μ1 => ex x ρ μ1)) : sDrop te ⟨nx, rt, bk, ct, ex⟩ ρ μ := h
theorem x_ret (h : te ρ μ rt (fun x μ1 => ex x ρ μ1)) : sRet te ⟨nx, rt, bk, ct, ex⟩ ρ μ := h
theorem x_retN (h : rt .non μ) : sRetN ⟨nx, rt, bk, ct, ex⟩ ρ μ := h
theorem x_if (h : tt ρ μ (fun b μ1 => if b = true then t ⟨nx, rt, bk, ct, ex⟩ ρ μ1 else u ⟨nx, rt, bk, ct, ex⟩ ρ μ1) (fun x μ1 => ex x ρ μ1)) : sIf tt t u ⟨nx, rt, bk, ct, ex⟩ ρ μ := h
theorem x_asg (h : te ρ μ (fun d μ1 => g d ρ μ1 nx (fun x μ2 => ex x ρ μ2)) (fun x μ1 => ex x ρ μ1)) : sAsg te g ⟨nx, rt, bk, ct, ex⟩ ρ μ := h
theorem x_par {i j : Nat} (h : te ρ μ (fun x μ1 => tf ρ μ1 (fun y μ2 => gName i x ρ μ2 (fun ρ1 μ3 => gName j y ρ1 μ3 nx fun _ _ => False) fun _ _ => False) (fun e μ2 => ex e ρ μ2)) (fun e μ1 => ex e ρ μ1)) : sPar i j te tf ⟨nx, rt, bk, ct, ex⟩ ρ μ := h
theorem x_for {wi : DI} (h : wi ρ μ (fun xs G μ1 => forW G g t ⟨nx, rt, bk, ct, ex⟩ xs ρ μ1) (fun e μ1 => ex e ρ μ1)) : sFor wi g t ⟨nx, rt, bk, ct, ex⟩ ρ μ := h
theorem x_fcons {G : Sto → Prop} {x : D} {xs : List D} (h1 : G μ) (h : g x ρ μ (fun ρ1 μ1 => t ⟨forW G g t ⟨nx, rt, bk, ct, ex⟩ xs, rt, nx, forW G g t ⟨nx, rt, bk, ct, ex⟩ xs, ex⟩ ρ1 μ1) (fun e μ1 => ex e ρ μ1)) :
    forW G g t ⟨nx, rt, bk, ct, ex⟩ (x :: xs) ρ μ := ⟨h1, h⟩
theorem x_fnil {G : Sto → Prop} (h1 : G μ) (h : nx ρ μ) : forW G g t ⟨nx, rt, bk, ct, ex⟩ [] ρ μ := ⟨h1, h⟩
theorem x_wsucc {n : Nat} (h : tt ρ μ (fun b μ1 => if b = true then t ⟨whileW tt t ⟨nx, rt, bk, ct, ex⟩ n, rt, nx, whileW tt t ⟨nx, rt, bk, ct, ex⟩ n, ex⟩ ρ μ1 else nx ρ μ1) (fun e μ1 => ex e ρ μ1)) :
    whileW tt t ⟨nx, rt, bk, ct, ex⟩ (n + 1) ρ μ := h
theorem x_while (n : Nat) (h : whileW tt t ⟨nx, rt, bk, ct, ex⟩ n ρ μ) : sWhile tt t ⟨nx, rt, bk, ct, ex⟩ ρ μ := ⟨n, h⟩
end
/-! ### targets -/
section
variable {ρ ρ' : Ev} {μ : Sto} {Q : Ev → Sto → Prop} {E : QX}
theorem x_gName {i : Nat} {d : D} (e : setE ρ i (some d) = ρ') (h : Q ρ' μ) : gName i d ρ μ Q E := by subst e; exact h
theorem x_gTup {is : List Nat} {ds : List D} (h : gNames is ds ρ μ Q) : gTup is (.tup ds) ρ μ Q E := h
theorem x_gWtup {is : List Nat} {ds : List D} (h : gNames is ds ρ μ Q) : gTup is (.wtup ds) ρ μ Q E := h
theorem x_gnn (h : Q ρ μ) : gNames [] [] ρ μ Q := h
theorem x_gnc {i : Nat} {is : List Nat} {d : D} {ds : List D} (e : setE ρ i (some d) = ρ') (h : gNames is ds ρ' μ Q) : gNames (i :: is) (d :: ds) ρ μ Q := by subst e; exact h
def gSubR (v : D) (ρ : Ev) (Q : Ev → Sto → Prop) (o i : D) (μ : Sto) : Prop := match o, i with
  | .loc p, .int k => opt (lstAt μ p) fun xs => opt (ixN xs.length k) fun j => Q ρ (put μ p (.lst (xs.set j v)))
  | _, _ => False
theorem x_gSub {to ti : DE} {v : D} (h : to ρ μ (fun o μ1 => ti ρ μ1 (fun i μ2 => gSubR v ρ Q o i μ2) E) E) : gSub to ti v ρ μ Q E := h
theorem x_gSubR {v : D} {p : Nat} {k : Int} {xs : List D} {j : Nat} (h1 : lstAt μ p = some xs) (h2 : ixN xs.length k = some j) (h : Q ρ (put μ p (.lst (xs.set j v)))) : gSubR v ρ Q (.loc p) (.int k) μ := by
  show opt (lstAt μ p) _; rw [h1]; show opt (ixN xs.length k) _; rw [h2]; exact h
end
/-! ### expressions -/
section
variable {ρ : Ev} {μ : Sto} {Q : QE} {E : QX} {QB : QB} {QA : QA}
theorem x_var {i : Nat} {d : D} (e : look ρ i = some d) (h : Q d μ) : dVar i ρ μ Q E := by unfold dVar; rw [e]; exact h
theorem x_c {d : D} (h : Q d μ) : dC d ρ μ Q E := h
theorem x_d1 {g : U1} {ta : DE} (h : ta ρ μ (fun x μ1 => g x μ1 Q) E) : d1 g ta ρ μ Q E := h
theorem x_d2 {g : U2} {ta tb : DE} (h : ta ρ μ (fun x μ1 => tb ρ μ1 (fun y μ2 => g x y μ2 Q) E) E) : d2 g ta tb ρ μ Q E := h
theorem x_nil (h : QA [] μ) : dNil ρ μ QA E := h
theorem x_cons {ta : DE} {tr : DA} (h : ta ρ μ (fun x μ1 => tr ρ μ1 (fun xs μ2 => QA (x :: xs) μ2) E) E) : dCons ta tr ρ μ QA E := h
theorem x_args {g : UA} {t : DA} (h : t ρ μ (fun xs μ1 => g xs μ1 Q) E) : dArgs g t ρ μ Q E := h
theorem x_call {pr : Pr} {t : DA} (h : t ρ μ (fun ds μ1 => pr ds μ1 Q E) E) : dCall pr t ρ μ Q E := h
theorem x_asB {b : Bool} (h : QB b μ) : asB QB (.bl b) μ := h
theorem x_test {t : DE} (h : t ρ μ (asB QB) E) : dTest t ρ μ QB E := h
theorem x_andT {t u : DT} (h : t ρ μ (fun c μ1 => if c = true then u ρ μ1 QB E else QB false μ1) E) : dAndT t u ρ μ QB E := h
theorem x_orT {t u : DT} (h : t ρ μ (fun c μ1 => if c = true then QB true μ1 else u ρ μ1 QB E) E) : dOrT t u ρ μ QB E := h
theorem x_notT {t : DT} (h : t ρ μ (fun c μ1 => QB (!c) μ1) E) : dNotT t ρ μ QB E := h
theorem x_andV {ta tb : DE} (h : ta ρ μ (asB fun c μ1 => if c = true then tb ρ μ1 Q E else Q (.bl false) μ1) E) : dAndV ta tb ρ μ Q E := h
theorem x_orV {ta tb : DE} (h : ta ρ μ (asB fun c μ1 => if c = true then Q (.bl true) μ1 else tb ρ μ1 Q E) E) : dOrV ta tb ρ μ Q E := h
theorem x_notV {ta : DE} (h : ta ρ μ (asB fun c μ1 => Q (.bl (!c)) μ1) E) : dNotV ta ρ μ Q E := h
theorem x_ifE {c : DT} {ta tb : DE} (h : c ρ μ (fun b μ1 => if b = true then ta ρ μ1 Q E else tb ρ μ1 Q E) E) : dIf c ta tb ρ μ Q E := h
theorem x_chain {g k : U2} {ta tb tc : DE} (h : ta ρ μ (fun x μ1 => tb ρ μ1 (fun y μ2 => g x y μ2 (asB fun c μ3 => if c = true then tc ρ μ3 (fun z μ4 => k y z μ4 Q) E else Q (.bl false) μ3)) E) E) : dChain g k ta tb tc ρ μ Q E := h
theorem x_tup {t : DA} (h : t ρ μ (fun xs μ1 => xs.length ≤ LINE ∧ Q (.tup xs) μ1) E) : dTup t ρ μ Q E := h
theorem x_lst {t : DA} (h : t ρ μ (fun xs μ1 => xs.length ≤ LINE ∧ ∀ p, μ1 p = none → Q (.loc p) (put μ1 p (.lst xs))) E) : dLst t ρ μ Q E := h
theorem x_yes (h : QB true μ) : tYes ρ μ QB E := h
def isiR (T : Ty) (Q : QE) (x : D) (μ : Sto) : Prop := isiOk x μ ∧ Q (.bl (isTy T x)) μ
theorem x_isi {T : Ty} {t : DE} (h : t ρ μ (isiR T Q) E) : dIsi T t ρ μ Q E := h
theorem x_isiR {T : Ty} {x : D} (h1 : isiOk x μ) (h : Q (.bl (isTy T x)) μ) : isiR T Q x μ := ⟨h1, h⟩
def methR (T : MTy) (g : D → UA) (t : DA) (ρ : Ev) (Q : QE) (E : QX) (x : D) (μ : Sto) : Prop := tyM T x μ ∧ t ρ μ (fun xs μ2 => g x xs μ2 Q) E
theorem x_meth {T : MTy} {g : D → UA} {to : DE} {t : DA} (h : to ρ μ (methR T g t ρ Q E) E) : dMeth T g to t ρ μ Q E := h
theorem x_methL {g : D → UA} {t : DA} {p : Nat} {xs : List D} (e : lstAt μ p = some xs) (h : t ρ μ (fun ys μ2 => g (.loc p) ys μ2 Q) E) : methR .list g t ρ Q E (.loc p) μ := ⟨by show (lstAt μ p).isSome = true; rw [e]; rfl, h⟩
def meth0R (T : MTy) (g : D → UA) (Q : QE) (x : D) (μ : Sto) : Prop := tyM T x μ ∧ g x [] μ Q
theorem x_meth0 {T : MTy} {g : D → UA} {to : DE} (h : to ρ μ (meth0R T g Q) E) : dMeth0 T g to ρ μ Q E := h
theorem x_meth0L {g : D → UA} {p : Nat} {xs : List D} (e : lstAt μ p = some xs) (h : g (.loc p) [] μ Q) : meth0R .list g Q (.loc p) μ := ⟨by show (lstAt μ p).isSome = true; rw [e]; rfl, h⟩
def methLTR (g : D → UA) (t : DA) (ρ : Ev) (Q : QE) (E : QX) (x : D) (μ : Sto) : Prop := isLT x μ ∧ t ρ μ (fun xs μ2 => g x xs μ2 Q) E
theorem x_methLT {g : D → UA} {to : DE} {t : DA} (h : to ρ μ (methLTR g t ρ Q E) E) : dMethLT g to t ρ μ Q E := h
theorem x_methLTt {g : D → UA} {t : DA} {xs : List D} (h : t ρ μ (fun ys μ2 => g (.tup xs) ys μ2 Q) E) : methLTR g t ρ Q E (.tup xs) μ := ⟨trivial, h⟩
theorem x_len0 {n : Nat} {P : Prop} (e : Nat.ble n LINE = true) (h : P) : n ≤ LINE ∧ P := ⟨Nat.le_of_ble_eq_true e, h⟩
/-! what is decided -/
theorem x_ite {p A B : Prop} [Decidable p] (h1 : p → A) (h2 : ¬ p → B) : if decide p = true then A else B := by
  by_cases h : p
  · rw [if_pos (decide_eq_true h)]; exact h1 h
  · rw [if_neg (by simp [h])]; exact h2 h
theorem x_iteB {b : Bool} {A B : Prop} (h1 : b = true → A) (h2 : b = false → B) : if b = true then A else B := by
  cases b
  · rw [if_neg (by decide)]; exact h2 rfl
  · rw [if_pos rfl]; exact h1 rfl
theorem x_iteT {A B : Prop} (h : A) : if true = true then A else B := by rw [if_pos rfl]; exact h
theorem x_iteF {A B : Prop} (h : B) : if false = true then A else B := by rw [if_neg (by decide)]; exact h
theorem x_iteN {p A B : Prop} [Decidable p] (h1 : ¬ p → A) (h2 : p → B) : if (!decide p) = true then A else B := by
  by_cases h : p
  · rw [if_neg (by simp [h])]; exact h2 h
  · rw [if_pos (by simp [h])]; exact h1 h
/-! ### operators -/
variable {i j : Int}
theorem x_add (h : Q (.int (i + j)) μ) : uAdd (.int i) (.int j) μ Q := h
theorem x_addT {a b : List D} (e : a.length + b.length ≤ LINE) (h : Q (.tup (a ++ b)) μ) : uAdd (.tup a) (.tup b) μ Q := ⟨e, h⟩
theorem x_addL {a b : Nat} {xs ys : List D} (e1 : lstAt μ a = some xs) (e2 : lstAt μ b = some ys) (e : xs.length + ys.length ≤ LINE) (h : ∀ p, μ p = none → Q (.loc p) (put μ p (.lst (xs ++ ys)))) : uAdd (.loc a) (.loc b) μ Q := by
  show opt (lstAt μ a) _; rw [e1]; show opt (lstAt μ b) _; rw [e2]; exact ⟨e, h⟩
theorem x_sub (h : Q (.int (i - j)) μ) : uSub (.int i) (.int j) μ Q := h
theorem x_mul (e : MulOk i j) (h : Q (.int (i * j)) μ) : uMul (.int i) (.int j) μ Q := ⟨e, h⟩
theorem x_div (e : DivOk j) (h : Q (.int (i / j)) μ) : uDiv (.int i) (.int j) μ Q := ⟨e, h⟩
theorem x_mod (e : 0 < j) (h : Q (.int (i % j)) μ) : uMod (.int i) (.int j) μ Q := ⟨e, h⟩
theorem x_pow (e : PowOk i j) (h : Q (.int (i ^ j.toNat)) μ) : uPow (.int i) (.int j) μ Q := ⟨e, h⟩
theorem x_shl (e : PowOk i j) (h : Q (.int (i * 2 ^ j.toNat)) μ) : uShl (.int i) (.int j) μ Q := ⟨e, h⟩
theorem x_neg (h : Q (.int (-i)) μ) : uNeg (.int i) μ Q := h
theorem x_lt (h : Q (.bl (decide (i < j))) μ) : uLt (.int i) (.int j) μ Q := h
theorem x_le (h : Q (.bl (decide (i ≤ j))) μ) : uLe (.int i) (.int j) μ Q := h
theorem x_gt (h : Q (.bl (decide (j < i))) μ) : uGt (.int i) (.int j) μ Q := h
theorem x_ge (h : Q (.bl (decide (j ≤ i))) μ) : uGe (.int i) (.int j) μ Q := h
theorem eqok_int (i : Int) : EqOk (.int i) := ⟨by simp [plain], by simp [depth]⟩
theorem eqok_bl (b : Bool) : EqOk (.bl b) := ⟨by simp [plain], by simp [depth]⟩
theorem eqd_int : eqD (.int i) (.int j) = decide (i = j) := by
  simp only [eqD]
  by_cases h : i = j
  · subst h; simp
  · simp [h]
theorem x_eq (h : Q (.bl (decide (i = j))) μ) : uEq (.int i) (.int j) μ Q := by
  refine ⟨eqok_int i, eqok_int j, ?_⟩
  rw [eqd_int]; exact h
theorem x_ne (h : Q (.bl (decide (i ≠ j))) μ) : uNe (.int i) (.int j) μ Q := by
  refine ⟨eqok_int i, eqok_int j, ?_⟩
  rw [eqd_int]
  have e : (!decide (i = j)) = decide (i ≠ j) := by by_cases h : i = j <;> simp [h]
  show Q (.bl (!decide (i = j))) μ
  rw [e]; exact h
theorem x_eqB {a b : Bool} (h : Q (.bl (a == b)) μ) : uEq (.bl a) (.bl b) μ Q := by
  refine ⟨eqok_bl a, eqok_bl b, ?_⟩
  simp only [eqD]; exact h
theorem x_neB {a b : Bool} (h : Q (.bl (!(a == b))) μ) : uNe (.bl a) (.bl b) μ Q := by
  refine ⟨eqok_bl a, eqok_bl b, ?_⟩
  simp only [eqD]; exact h
theorem x_is {x : D} (h : Q (.bl (isNon x)) μ) : uIs x .non μ Q := h
theorem x_isNot {x : D} (h : Q (.bl (!isNon x)) μ) : uIsNot x .non μ Q := h
/-! ### places, built-ins -/
theorem x_opt {α : Type} {o : Option α} {x : α} {k : α → Prop} (e : o = some x) (h : k x) : opt o k := by rw [e]; exact h
theorem x_ixT {xs : List D} {d : D} (e : atI xs i = some d) (h : Q d μ) : uIx (.tup xs) (.int i) μ Q := by show opt (atI xs i) _; rw [e]; exact h
theorem x_ixW {xs : List D} {d : D} (e : atI xs i = some d) (h : Q d μ) : uIx (.wtup xs) (.int i) μ Q := by show opt (atI xs i) _; rw [e]; exact h
theorem x_ixL {p : Nat} {xs : List D} {d : D} (e1 : lstAt μ p = some xs) (e : atI xs i = some d) (h : Q d μ) : uIx (.loc p) (.int i) μ Q := by
  show opt (lstAt μ p) _; rw [e1]; show opt (atI xs i) _; rw [e]; exact h
theorem x_lenT {xs : List D} (h : Q (.int xs.length) μ) : aLen [.tup xs] μ Q := h
theorem x_lenL {p : Nat} {xs : List D} (e : lstAt μ p = some xs) (h : Q (.int xs.length) μ) : aLen [.loc p] μ Q := by
  show opt ((lstAt μ p).map List.length) _; rw [e]; exact h
theorem x_int (h : Q (.int i) μ) : aInt [.int i] μ Q := h
theorem x_abs (h : Q (.int (if i < 0 then -i else i)) μ) : aAbs [.int i] μ Q := h
theorem intsOf_map : ∀ ns : List Int, intsOf (ns.map D.int) = some ns
  | [] => rfl
  | n :: ns => by
    show (intsOf (ns.map D.int)).map _ = _
    rw [intsOf_map ns]; rfl
theorem x_sumT {ns : List Int} (h : Q (.int ns.sum) μ) : aSum [.tup (ns.map D.int)] μ Q := by
  show opt (intsOf (ns.map D.int)) _; rw [intsOf_map]; exact h
theorem x_sumL {p : Nat} {ns : List Int} (e : lstAt μ p = some (ns.map D.int)) (h : Q (.int ns.sum) μ) : aSum [.loc p] μ Q := by
  show opt ((lstAt μ p).bind intsOf) _; rw [e]; show opt (intsOf (ns.map D.int)) _; rw [intsOf_map]; exact h
theorem x_minL {p : Nat} {ns : List Int} (e : lstAt μ p = some (ns.map D.int)) (e2 : 0 < ns.length) (h : ∀ m, m ∈ ns → (∀ y, y ∈ ns → m ≤ y) → Q (.int m) μ) : aMin [.loc p] μ Q := by
  show opt ((lstAt μ p).bind intsOf) _; rw [e]; show opt (intsOf (ns.map D.int)) _; rw [intsOf_map]; exact ⟨e2, h⟩
theorem x_max2 (h : Q (.int (if j > i then j else i)) μ) : aMax [.int i, .int j] μ Q := h
theorem x_min2 (h : Q (.int (if j < i then j else i)) μ) : aMin [.int i, .int j] μ Q := h
theorem x_tupT {xs : List D} (h : Q (.tup xs) μ) : aTuple [.tup xs] μ Q := h
theorem x_tupL {p : Nat} {xs : List D} (e : lstAt μ p = some xs) (h : Q (.tup xs) μ) : aTuple [.loc p] μ Q := by
  show opt (lstAt μ p) _; rw [e]; exact h
theorem x_listL {p : Nat} {xs : List D} (e : lstAt μ p = some xs) (h : ∀ l, μ l = none → Q (.loc l) (put μ l (.lst xs))) : aList [.loc p] μ Q := by
  show opt (lstAt μ p) _; rw [e]; exact h
theorem x_app {p : Nat} {y : D} {xs : List D} (e : lstAt μ p = some xs) (e2 : xs.length < LINE) (h : Q .non (put μ p (.lst (xs ++ [y])))) : mAppend (.loc p) [y] μ Q := by
  show opt (lstAt μ p) _; rw [e]; exact ⟨e2, h⟩
theorem x_pop {p : Nat} {y : D} {xs : List D} (e : lstAt μ p = some (xs ++ [y])) (h : Q y (put μ p (.lst xs))) : mPop (.loc p) [] μ Q := by
  show opt (lstAt μ p) _; rw [e]
  show opt ((xs ++ [y])[(xs ++ [y]).length - 1]?) _
  have e1 : (xs ++ [y])[(xs ++ [y]).length - 1]? = some y := by simp
  have e2 : (xs ++ [y]).dropLast = xs := by simp
  rw [e1, e2]; exact h
theorem x_sortL {p : Nat} {ns : List Int} (e : lstAt μ p = some (ns.map D.int)) (h : ∀ (ns' : List Int) q, ns'.Perm ns → ns'.Pairwise (· ≤ ·) → μ q = none → Q (.loc q) (put μ q (.lst (ns'.map D.int)))) : aSorted [.loc p] μ Q := by
  show opt ((lstAt μ p).bind intsOf) _; rw [e]; show opt (intsOf (ns.map D.int)) _; rw [intsOf_map]; exact h
theorem x_sortSet {ns : List Int} (e : ns.length < 64) (h : ∀ (ns' : List Int) p, ns'.Pairwise (· < ·) → (∀ k, k ∈ ns' ↔ k ∈ ns) → μ p = none → Q (.loc p) (put μ p (.lst (ns'.map D.int)))) : uSortSet (.tup (ns.map D.int)) μ Q := by
  show opt (intsOf (ns.map D.int)) _; rw [intsOf_map]; exact ⟨e, h⟩
theorem x_countT {ns : List Int} {k : Int} (h : Q (.int (ns.count k : Nat)) μ) : mCount (.tup (ns.map D.int)) [.int k] μ Q := by
  show opt (intsOf (ns.map D.int)) _; rw [intsOf_map]; exact h
theorem x_bits (h : Q (.int (bitsOf i)) μ) : uBits (.int i) μ Q := h
theorem x_revL {p : Nat} {xs : List D} (e : lstAt μ p = some xs) (h : ∀ q, μ q = none → Q (.loc q) (put μ q (.lst xs.reverse))) : uRev (.loc p) μ Q := by
  show opt (lstAt μ p) _; rw [e]; exact h
end
/-! ### walks -/
section
variable {ρ : Ev} {μ : Sto} {E : QX} {R : List D → (Sto → Prop) → Sto → Prop}
def seqW (R : List D → (Sto → Prop) → Sto → Prop) (x : D) (μ : Sto) : Prop := match x with
  | .tup xs => R xs (fun _ => True) μ
  | .rol xs => R xs (fun _ => True) μ
  | .loc p => opt (lstAt μ p) fun xs => R xs (fun μ' => lstAt μ' p = some xs) μ
  | _ => False
theorem x_wSeq {t : DE} (h : t ρ μ (seqW R) E) : wSeq t ρ μ R E := by
  have e : wSeq t ρ μ R E = t ρ μ (seqW R) E := by
    refine congrArg (fun z => t ρ μ z E) ?_
    funext x μ1
    cases x <;> rfl
  rw [e]; exact h
theorem x_wT {xs : List D} (h : R xs (fun _ => True) μ) : seqW R (.tup xs) μ := h
theorem x_wR {xs : List D} (h : R xs (fun _ => True) μ) : seqW R (.rol xs) μ := h
theorem x_wL {p : Nat} {xs : List D} (e : lstAt μ p = some xs) (h : R xs (fun μ' => lstAt μ' p = some xs) μ) : seqW R (.loc p) μ := by
  show opt (lstAt μ p) _; rw [e]; exact h
def rngW (R : List D → (Sto → Prop) → Sto → Prop) (x : D) (μ : Sto) : Prop := match x with
  | .int j => (-(2 ^ 62) ≤ j ∧ j < 2 ^ 62) ∧ R (rangeL 0 j.toNat) (fun _ => True) μ
  | _ => False
theorem x_wRng1 {t : DE} (h : t ρ μ (rngW R) E) : wRng1 t ρ μ R E := by
  have e : wRng1 t ρ μ R E = t ρ μ (rngW R) E := by
    refine congrArg (fun z => t ρ μ z E) ?_
    funext x μ1
    cases x <;> rfl
  rw [e]; exact h
theorem x_rng {j : Int} (e : -(2 ^ 62) ≤ j ∧ j < 2 ^ 62) (h : R (rangeL 0 j.toNat) (fun _ => True) μ) : rngW R (.int j) μ := ⟨e, h⟩
theorem x_wEnum {t : DE} (h : t ρ μ (seqW fun xs G μ1 => R (enumL xs 0) G μ1) E) : wEnum t ρ μ R E := x_wSeq h
theorem x_lc {wi : DI} {g : DG} {tt : DT} {te : DE} {vs : List Nat} {Q : QE} {ρ0 : Ev} (e : wipeE ρ vs = ρ0) (h : wi ρ μ (fun xs G μ1 => ∀ p, μ1 p = none → lcW G g tt te ρ0 p (Q (.loc p)) xs (put μ1 p (.lst []))) E) : dLc wi g tt te vs ρ μ Q E := by
  subst e; exact h
end
/-! ### cuts -/
section
variable {ρ : Ev} {μ : Sto} {Q : QE} {E : QX} {t : DE}
theorem x_cut01 {h0 : DE} (h : t ρ μ (fun x μ1 => h0 ρ μ1 (fun b μ2 => asI b fun j => cutR x none (some j) μ2 Q) E) E) : dCut t none (some h0) ρ μ Q E := h
theorem x_cut10 {l : DE} (h : t ρ μ (fun x μ1 => l ρ μ1 (fun a μ2 => asI a fun i => cutR x (some i) none μ2 Q) E) E) : dCut t (some l) none ρ μ Q E := h
theorem x_asI {i : Int} {P : Int → Prop} (h : P i) : asI (.int i) P := h
theorem x_cutT {xs : List D} {lo hi : Option Int} (h : Q (.tup (cutL xs lo hi)) μ) : cutR (.tup xs) lo hi μ Q := h
theorem x_cutR {xs : List D} {lo hi : Option Int} (h : ∀ p, μ p = none → Q (.loc p) (put μ p (.lst (cutL xs lo hi)))) : cutR (.rol xs) lo hi μ Q := h
theorem x_cutL {a : Nat} {xs : List D} {lo hi : Option Int} (e : lstAt μ a = some xs) (h : ∀ p, μ p = none → Q (.loc p) (put μ p (.lst (cutL xs lo hi)))) : cutR (.loc a) lo hi μ Q := by
  show opt (lstAt μ a) _; rw [e]; exact h
end
end PD
set_option linter.all false
set_option maxRecDepth 100000
/-! PDHelp: the laws' own helpers: the purse, draws, ==. -/
namespace PD
open PySem

/-- the purse: deep cells, the worth, what is left of a cell -/
def Pu (p q : Nat) (μ : Sto) : Prop := ∃ (ds : List Int) (w r : Int), lstAt μ p = some [.loc q, .int w, .int r] ∧ lstAt μ q = some (ds.map D.int) ∧ p ≠ q ∧ 0 ≤ w ∧ w < 2 ^ 31 ∧ 0 ≤ r ∧ ∀ d ∈ ds, 0 ≤ d
/-- all but the purse stays -/
def Fr (p q : Nat) (μ μ' : Sto) : Prop := ∀ a o, a ≠ p → a ≠ q → μ a = some o → μ' a = some o
theorem Fr.refl {p q : Nat} (μ : Sto) : Fr p q μ μ := fun _ _ _ _ h => h
theorem Fr.trans {p q : Nat} {a b c : Sto} (h : Fr p q a b) (k : Fr p q b c) : Fr p q a c := fun x o h1 h2 e => k x o h1 h2 (h x o h1 h2 e)

def spendB (a c m : Int) : DS := sSeq (sIf (dTest (d2 uLt (dVar 1) (dC (.int 2)))) (sRet (dC (.int 0))) (sNext)) (sSeq (sIf (dAndT (dTest (d2 uEq (d2 uIx (dVar 0) (dC (.int 2))) (dC (.int 0)))) (dTest (d2 uGt (dArgs aLen (dCons (d2 uIx (dVar 0) (dC (.int 0))) (dNil))) (dC (.int 0))))) (sAsg (dMeth0 .list mPop (d2 uIx (dVar 0) (dC (.int 0)))) (gSub (dVar 0) (dC (.int 2)))) (sNext)) (sSeq (sIf (dTest (d2 uGt (d2 uIx (dVar 0) (dC (.int 2))) (dC (.int 0)))) (sSeq (sAsg (d2 uMod (dArgs aInt (dCons (d2 uIx (dVar 0) (dC (.int 2))) (dNil))) (dVar 1)) (gName 2)) (sSeq (sAsg (d2 uDiv (d2 uIx (dVar 0) (dC (.int 2))) (dVar 1)) (gSub (dVar 0) (dC (.int 2)))) (sRet (dVar 2)))) (sNext)) (sSeq (sAsg (d2 uMod (dArgs aInt (dCons (d2 uAdd (d2 uMul (d2 uIx (dVar 0) (dC (.int 1))) (dC (.int a))) (dC (.int c))) (dNil))) (dC (.int m))) (gSub (dVar 0) (dC (.int 1)))) (sRet (d2 uMod (dArgs aInt (dCons (d2 uDiv (d2 uIx (dVar 0) (dC (.int 1))) (dC (.int 31))) (dNil))) (dVar 1))))))
theorem log2_le {n k : Nat} (h : n < 2 ^ k) : n.log2 ≤ k := by
  by_cases h0 : n = 0
  · subst h0; exact Nat.zero_le _
  · exact Nat.le_of_lt ((Nat.log2_lt h0).mpr h)
theorem abs_lt {i : Int} {k : Nat} (h0 : 0 ≤ i) (h : i < 2 ^ k) : i.natAbs < 2 ^ k := by
  have e : ((i.natAbs : Nat) : Int) = i := Int.natAbs_of_nonneg h0
  have h2 : ((i.natAbs : Nat) : Int) < ((2 ^ k : Nat) : Int) := by rw [e]; push_cast; exact h
  exact Int.ofNat_lt.mp h2
theorem mul_ok {i j : Int} (k l : Nat) (hi : 0 ≤ i) (hi2 : i < 2 ^ k) (hj : 0 ≤ j) (hj2 : j < 2 ^ l) (h : k + l < 1000000) : MulOk i j := by
  have a := log2_le (abs_lt hi hi2)
  have b := log2_le (abs_lt hj hj2)
  unfold MulOk
  omega
theorem div_ok {j : Int} (k : Nat) (hj : 0 < j) (hj2 : j < 2 ^ k) (h : k < 9000) : DivOk j := ⟨hj, by
  have b := log2_le (abs_lt (Int.le_of_lt hj) hj2)
  omega⟩
theorem list_last {α : Type} : ∀ (l : List α), l ≠ [] → ∃ r x, l = r ++ [x] := fun l h => ⟨l.dropLast, l.getLast h, by rw [List.dropLast_concat_getLast]⟩

theorem spend_tail {a c m : Int} {p q : Nat} {μ : Sto} {many w r : Int} {ds : List Int} {Q : QE} {E : QX} (hm : 2 ≤ many) (hm2 : many < 2 ^ 64) (ha : 0 ≤ a ∧ a < 2 ^ 31) (hc : 0 ≤ c) (hmm : 0 < m ∧ m ≤ 2 ^ 31)
    (e1 : lstAt μ p = some [.loc q, .int w, .int r]) (e2 : lstAt μ q = some (ds.map D.int)) (hpq : p ≠ q) (hw : 0 ≤ w) (hw2 : w < 2 ^ 31) (hr : 0 ≤ r) (hd : ∀ d ∈ ds, 0 ≤ d)
    (h : ∀ (t : Int) μ', 0 ≤ t → t < many → Pu p q μ' → Fr p q μ μ' → Q (.int t) μ') :
    (sSeq (sIf (dTest (d2 uGt (d2 uIx (dVar 0) (dC (.int 2))) (dC (.int 0)))) (sSeq (sAsg (d2 uMod (dArgs aInt (dCons (d2 uIx (dVar 0) (dC (.int 2))) (dNil))) (dVar 1)) (gName 2)) (sSeq (sAsg (d2 uDiv (d2 uIx (dVar 0) (dC (.int 2))) (dVar 1)) (gSub (dVar 0) (dC (.int 2)))) (sRet (dVar 2)))) (sNext)) (sSeq (sAsg (d2 uMod (dArgs aInt (dCons (d2 uAdd (d2 uMul (d2 uIx (dVar 0) (dC (.int 1))) (dC (.int a))) (dC (.int c))) (dNil))) (dC (.int m))) (gSub (dVar 0) (dC (.int 1)))) (sRet (d2 uMod (dArgs aInt (dCons (d2 uDiv (d2 uIx (dVar 0) (dC (.int 1))) (dC (.int 31))) (dNil))) (dVar 1)))) : DS)
      ⟨fun _ μ1 => Q .non μ1, Q, fun _ _ => False, fun _ _ => False, fun x _ μ1 => E x μ1⟩ [some (.loc p), some (.int many), none] μ := by
  (repeat (first | with_reducible apply x_seq | with_reducible apply x_asg | with_reducible apply x_ret | with_reducible apply x_retN | with_reducible apply x_drop | with_reducible apply x_next | with_reducible apply x_break | with_reducible apply x_cont | with_reducible apply x_if | with_reducible apply x_par | with_reducible apply x_for | with_reducible apply x_c | with_reducible apply x_d1 | with_reducible apply x_d2 | with_reducible apply x_nil | with_reducible apply x_cons | with_reducible apply x_args | with_reducible apply x_call | with_reducible apply x_test | with_reducible apply x_asB | with_reducible apply x_andT | with_reducible apply x_orT | with_reducible apply x_notT | with_reducible apply x_andV | with_reducible apply x_orV | with_reducible apply x_notV | with_reducible apply x_ifE | with_reducible apply x_chain | with_reducible apply x_tup | with_reducible apply x_lst | with_reducible apply x_yes | with_reducible apply x_isi | with_reducible apply x_meth | with_reducible apply x_meth0 | with_reducible apply x_methLT | with_reducible apply x_methLTt | with_reducible apply x_gTup | with_reducible apply x_gWtup | with_reducible apply x_gnn | with_reducible apply x_gSub | with_reducible apply x_add | with_reducible apply x_sub | with_reducible apply x_neg | with_reducible apply x_lt | with_reducible apply x_le | with_reducible apply x_gt | with_reducible apply x_ge | with_reducible apply x_eq | with_reducible apply x_ne | with_reducible apply x_eqB | with_reducible apply x_neB | with_reducible apply x_is | with_reducible apply x_isNot | with_reducible apply x_lenT | with_reducible apply x_int | with_reducible apply x_tupT | with_reducible apply x_wSeq | with_reducible apply x_wT | with_reducible apply x_wR | with_reducible apply x_wRng1 | with_reducible apply x_wEnum | with_reducible apply x_dFld | with_reducible apply x_cut01 | with_reducible apply x_cut10 | with_reducible apply x_asI | with_reducible apply x_cutT | with_reducible apply x_iteT | with_reducible apply x_iteF | with_reducible apply x_max2 | with_reducible apply x_min2 | with_reducible apply x_bits | with_reducible refine x_var (by with_unfolding_all rfl) ?_ | with_reducible refine x_gName (by dsimp only [setE] <;> with_unfolding_all rfl) ?_ | with_reducible refine x_gnc (by dsimp only [setE] <;> with_unfolding_all rfl) ?_ | with_reducible refine x_len0 (by with_unfolding_all rfl) ?_ | with_reducible refine x_isiR (by with_unfolding_all exact True.intro) ?_ | with_reducible refine x_ixL (by assumption) (by with_unfolding_all rfl) ?_ | with_reducible refine x_ixT (by with_unfolding_all rfl) ?_ | with_reducible refine x_lenL (by assumption) ?_ | with_reducible refine x_gSubR (by assumption) (by with_unfolding_all rfl) ?_ | with_reducible refine x_lc (by dsimp only [wipeE, setE] <;> with_unfolding_all rfl) ?_))
  refine x_ite (fun hr0 => ?_) (fun hr0 => ?_)
  · (repeat (first | with_reducible apply x_seq | with_reducible apply x_asg | with_reducible apply x_ret | with_reducible apply x_retN | with_reducible apply x_drop | with_reducible apply x_next | with_reducible apply x_break | with_reducible apply x_cont | with_reducible apply x_if | with_reducible apply x_par | with_reducible apply x_for | with_reducible apply x_c | with_reducible apply x_d1 | with_reducible apply x_d2 | with_reducible apply x_nil | with_reducible apply x_cons | with_reducible apply x_args | with_reducible apply x_call | with_reducible apply x_test | with_reducible apply x_asB | with_reducible apply x_andT | with_reducible apply x_orT | with_reducible apply x_notT | with_reducible apply x_andV | with_reducible apply x_orV | with_reducible apply x_notV | with_reducible apply x_ifE | with_reducible apply x_chain | with_reducible apply x_tup | with_reducible apply x_lst | with_reducible apply x_yes | with_reducible apply x_isi | with_reducible apply x_meth | with_reducible apply x_meth0 | with_reducible apply x_methLT | with_reducible apply x_methLTt | with_reducible apply x_gTup | with_reducible apply x_gWtup | with_reducible apply x_gnn | with_reducible apply x_gSub | with_reducible apply x_add | with_reducible apply x_sub | with_reducible apply x_neg | with_reducible apply x_lt | with_reducible apply x_le | with_reducible apply x_gt | with_reducible apply x_ge | with_reducible apply x_eq | with_reducible apply x_ne | with_reducible apply x_eqB | with_reducible apply x_neB | with_reducible apply x_is | with_reducible apply x_isNot | with_reducible apply x_lenT | with_reducible apply x_int | with_reducible apply x_tupT | with_reducible apply x_wSeq | with_reducible apply x_wT | with_reducible apply x_wR | with_reducible apply x_wRng1 | with_reducible apply x_wEnum | with_reducible apply x_dFld | with_reducible apply x_cut01 | with_reducible apply x_cut10 | with_reducible apply x_asI | with_reducible apply x_cutT | with_reducible apply x_iteT | with_reducible apply x_iteF | with_reducible apply x_max2 | with_reducible apply x_min2 | with_reducible apply x_bits | with_reducible refine x_var (by with_unfolding_all rfl) ?_ | with_reducible refine x_gName (by dsimp only [setE] <;> with_unfolding_all rfl) ?_ | with_reducible refine x_gnc (by dsimp only [setE] <;> with_unfolding_all rfl) ?_ | with_reducible refine x_len0 (by with_unfolding_all rfl) ?_ | with_reducible refine x_isiR (by with_unfolding_all exact True.intro) ?_ | with_reducible refine x_ixL (by assumption) (by with_unfolding_all rfl) ?_ | with_reducible refine x_ixT (by with_unfolding_all rfl) ?_ | with_reducible refine x_lenL (by assumption) ?_ | with_reducible refine x_gSubR (by assumption) (by with_unfolding_all rfl) ?_ | with_reducible refine x_lc (by dsimp only [wipeE, setE] <;> with_unfolding_all rfl) ?_))
    refine x_mod (by omega) ?_
    (repeat (first | with_reducible apply x_seq | with_reducible apply x_asg | with_reducible apply x_ret | with_reducible apply x_retN | with_reducible apply x_drop | with_reducible apply x_next | with_reducible apply x_break | with_reducible apply x_cont | with_reducible apply x_if | with_reducible apply x_par | with_reducible apply x_for | with_reducible apply x_c | with_reducible apply x_d1 | with_reducible apply x_d2 | with_reducible apply x_nil | with_reducible apply x_cons | with_reducible apply x_args | with_reducible apply x_call | with_reducible apply x_test | with_reducible apply x_asB | with_reducible apply x_andT | with_reducible apply x_orT | with_reducible apply x_notT | with_reducible apply x_andV | with_reducible apply x_orV | with_reducible apply x_notV | with_reducible apply x_ifE | with_reducible apply x_chain | with_reducible apply x_tup | with_reducible apply x_lst | with_reducible apply x_yes | with_reducible apply x_isi | with_reducible apply x_meth | with_reducible apply x_meth0 | with_reducible apply x_methLT | with_reducible apply x_methLTt | with_reducible apply x_gTup | with_reducible apply x_gWtup | with_reducible apply x_gnn | with_reducible apply x_gSub | with_reducible apply x_add | with_reducible apply x_sub | with_reducible apply x_neg | with_reducible apply x_lt | with_reducible apply x_le | with_reducible apply x_gt | with_reducible apply x_ge | with_reducible apply x_eq | with_reducible apply x_ne | with_reducible apply x_eqB | with_reducible apply x_neB | with_reducible apply x_is | with_reducible apply x_isNot | with_reducible apply x_lenT | with_reducible apply x_int | with_reducible apply x_tupT | with_reducible apply x_wSeq | with_reducible apply x_wT | with_reducible apply x_wR | with_reducible apply x_wRng1 | with_reducible apply x_wEnum | with_reducible apply x_dFld | with_reducible apply x_cut01 | with_reducible apply x_cut10 | with_reducible apply x_asI | with_reducible apply x_cutT | with_reducible apply x_iteT | with_reducible apply x_iteF | with_reducible apply x_max2 | with_reducible apply x_min2 | with_reducible apply x_bits | with_reducible refine x_var (by with_unfolding_all rfl) ?_ | with_reducible refine x_gName (by dsimp only [setE] <;> with_unfolding_all rfl) ?_ | with_reducible refine x_gnc (by dsimp only [setE] <;> with_unfolding_all rfl) ?_ | with_reducible refine x_len0 (by with_unfolding_all rfl) ?_ | with_reducible refine x_isiR (by with_unfolding_all exact True.intro) ?_ | with_reducible refine x_ixL (by assumption) (by with_unfolding_all rfl) ?_ | with_reducible refine x_ixT (by with_unfolding_all rfl) ?_ | with_reducible refine x_lenL (by assumption) ?_ | with_reducible refine x_gSubR (by assumption) (by with_unfolding_all rfl) ?_ | with_reducible refine x_lc (by dsimp only [wipeE, setE] <;> with_unfolding_all rfl) ?_))
    refine x_div (div_ok 64 (by omega) hm2 (by decide)) ?_
    (repeat (first | with_reducible apply x_seq | with_reducible apply x_asg | with_reducible apply x_ret | with_reducible apply x_retN | with_reducible apply x_drop | with_reducible apply x_next | with_reducible apply x_break | with_reducible apply x_cont | with_reducible apply x_if | with_reducible apply x_par | with_reducible apply x_for | with_reducible apply x_c | with_reducible apply x_d1 | with_reducible apply x_d2 | with_reducible apply x_nil | with_reducible apply x_cons | with_reducible apply x_args | with_reducible apply x_call | with_reducible apply x_test | with_reducible apply x_asB | with_reducible apply x_andT | with_reducible apply x_orT | with_reducible apply x_notT | with_reducible apply x_andV | with_reducible apply x_orV | with_reducible apply x_notV | with_reducible apply x_ifE | with_reducible apply x_chain | with_reducible apply x_tup | with_reducible apply x_lst | with_reducible apply x_yes | with_reducible apply x_isi | with_reducible apply x_meth | with_reducible apply x_meth0 | with_reducible apply x_methLT | with_reducible apply x_methLTt | with_reducible apply x_gTup | with_reducible apply x_gWtup | with_reducible apply x_gnn | with_reducible apply x_gSub | with_reducible apply x_add | with_reducible apply x_sub | with_reducible apply x_neg | with_reducible apply x_lt | with_reducible apply x_le | with_reducible apply x_gt | with_reducible apply x_ge | with_reducible apply x_eq | with_reducible apply x_ne | with_reducible apply x_eqB | with_reducible apply x_neB | with_reducible apply x_is | with_reducible apply x_isNot | with_reducible apply x_lenT | with_reducible apply x_int | with_reducible apply x_tupT | with_reducible apply x_wSeq | with_reducible apply x_wT | with_reducible apply x_wR | with_reducible apply x_wRng1 | with_reducible apply x_wEnum | with_reducible apply x_dFld | with_reducible apply x_cut01 | with_reducible apply x_cut10 | with_reducible apply x_asI | with_reducible apply x_cutT | with_reducible apply x_iteT | with_reducible apply x_iteF | with_reducible apply x_max2 | with_reducible apply x_min2 | with_reducible apply x_bits | with_reducible refine x_var (by with_unfolding_all rfl) ?_ | with_reducible refine x_gName (by dsimp only [setE] <;> with_unfolding_all rfl) ?_ | with_reducible refine x_gnc (by dsimp only [setE] <;> with_unfolding_all rfl) ?_ | with_reducible refine x_len0 (by with_unfolding_all rfl) ?_ | with_reducible refine x_isiR (by with_unfolding_all exact True.intro) ?_ | with_reducible refine x_ixL (by assumption) (by with_unfolding_all rfl) ?_ | with_reducible refine x_ixT (by with_unfolding_all rfl) ?_ | with_reducible refine x_lenL (by assumption) ?_ | with_reducible refine x_gSubR (by assumption) (by with_unfolding_all rfl) ?_ | with_reducible refine x_lc (by dsimp only [wipeE, setE] <;> with_unfolding_all rfl) ?_))
    refine h _ _ (Int.emod_nonneg _ (by omega)) (Int.emod_lt_of_pos _ (by omega)) ⟨ds, w, r / many, lstAt_put, by rw [lstAt_ne hpq.symm]; exact e2, hpq, hw, hw2, Int.ediv_nonneg hr (by omega), hd⟩ fun b o h1 _ e => by rw [put_ne h1]; exact e
  · (repeat (first | with_reducible apply x_seq | with_reducible apply x_asg | with_reducible apply x_ret | with_reducible apply x_retN | with_reducible apply x_drop | with_reducible apply x_next | with_reducible apply x_break | with_reducible apply x_cont | with_reducible apply x_if | with_reducible apply x_par | with_reducible apply x_for | with_reducible apply x_c | with_reducible apply x_d1 | with_reducible apply x_d2 | with_reducible apply x_nil | with_reducible apply x_cons | with_reducible apply x_args | with_reducible apply x_call | with_reducible apply x_test | with_reducible apply x_asB | with_reducible apply x_andT | with_reducible apply x_orT | with_reducible apply x_notT | with_reducible apply x_andV | with_reducible apply x_orV | with_reducible apply x_notV | with_reducible apply x_ifE | with_reducible apply x_chain | with_reducible apply x_tup | with_reducible apply x_lst | with_reducible apply x_yes | with_reducible apply x_isi | with_reducible apply x_meth | with_reducible apply x_meth0 | with_reducible apply x_methLT | with_reducible apply x_methLTt | with_reducible apply x_gTup | with_reducible apply x_gWtup | with_reducible apply x_gnn | with_reducible apply x_gSub | with_reducible apply x_add | with_reducible apply x_sub | with_reducible apply x_neg | with_reducible apply x_lt | with_reducible apply x_le | with_reducible apply x_gt | with_reducible apply x_ge | with_reducible apply x_eq | with_reducible apply x_ne | with_reducible apply x_eqB | with_reducible apply x_neB | with_reducible apply x_is | with_reducible apply x_isNot | with_reducible apply x_lenT | with_reducible apply x_int | with_reducible apply x_tupT | with_reducible apply x_wSeq | with_reducible apply x_wT | with_reducible apply x_wR | with_reducible apply x_wRng1 | with_reducible apply x_wEnum | with_reducible apply x_dFld | with_reducible apply x_cut01 | with_reducible apply x_cut10 | with_reducible apply x_asI | with_reducible apply x_cutT | with_reducible apply x_iteT | with_reducible apply x_iteF | with_reducible apply x_max2 | with_reducible apply x_min2 | with_reducible apply x_bits | with_reducible refine x_var (by with_unfolding_all rfl) ?_ | with_reducible refine x_gName (by dsimp only [setE] <;> with_unfolding_all rfl) ?_ | with_reducible refine x_gnc (by dsimp only [setE] <;> with_unfolding_all rfl) ?_ | with_reducible refine x_len0 (by with_unfolding_all rfl) ?_ | with_reducible refine x_isiR (by with_unfolding_all exact True.intro) ?_ | with_reducible refine x_ixL (by assumption) (by with_unfolding_all rfl) ?_ | with_reducible refine x_ixT (by with_unfolding_all rfl) ?_ | with_reducible refine x_lenL (by assumption) ?_ | with_reducible refine x_gSubR (by assumption) (by with_unfolding_all rfl) ?_ | with_reducible refine x_lc (by dsimp only [wipeE, setE] <;> with_unfolding_all rfl) ?_))
    refine x_mul (mul_ok 31 31 hw hw2 ha.1 ha.2 (by decide)) ?_
    (repeat (first | with_reducible apply x_seq | with_reducible apply x_asg | with_reducible apply x_ret | with_reducible apply x_retN | with_reducible apply x_drop | with_reducible apply x_next | with_reducible apply x_break | with_reducible apply x_cont | with_reducible apply x_if | with_reducible apply x_par | with_reducible apply x_for | with_reducible apply x_c | with_reducible apply x_d1 | with_reducible apply x_d2 | with_reducible apply x_nil | with_reducible apply x_cons | with_reducible apply x_args | with_reducible apply x_call | with_reducible apply x_test | with_reducible apply x_asB | with_reducible apply x_andT | with_reducible apply x_orT | with_reducible apply x_notT | with_reducible apply x_andV | with_reducible apply x_orV | with_reducible apply x_notV | with_reducible apply x_ifE | with_reducible apply x_chain | with_reducible apply x_tup | with_reducible apply x_lst | with_reducible apply x_yes | with_reducible apply x_isi | with_reducible apply x_meth | with_reducible apply x_meth0 | with_reducible apply x_methLT | with_reducible apply x_methLTt | with_reducible apply x_gTup | with_reducible apply x_gWtup | with_reducible apply x_gnn | with_reducible apply x_gSub | with_reducible apply x_add | with_reducible apply x_sub | with_reducible apply x_neg | with_reducible apply x_lt | with_reducible apply x_le | with_reducible apply x_gt | with_reducible apply x_ge | with_reducible apply x_eq | with_reducible apply x_ne | with_reducible apply x_eqB | with_reducible apply x_neB | with_reducible apply x_is | with_reducible apply x_isNot | with_reducible apply x_lenT | with_reducible apply x_int | with_reducible apply x_tupT | with_reducible apply x_wSeq | with_reducible apply x_wT | with_reducible apply x_wR | with_reducible apply x_wRng1 | with_reducible apply x_wEnum | with_reducible apply x_dFld | with_reducible apply x_cut01 | with_reducible apply x_cut10 | with_reducible apply x_asI | with_reducible apply x_cutT | with_reducible apply x_iteT | with_reducible apply x_iteF | with_reducible apply x_max2 | with_reducible apply x_min2 | with_reducible apply x_bits | with_reducible refine x_var (by with_unfolding_all rfl) ?_ | with_reducible refine x_gName (by dsimp only [setE] <;> with_unfolding_all rfl) ?_ | with_reducible refine x_gnc (by dsimp only [setE] <;> with_unfolding_all rfl) ?_ | with_reducible refine x_len0 (by with_unfolding_all rfl) ?_ | with_reducible refine x_isiR (by with_unfolding_all exact True.intro) ?_ | with_reducible refine x_ixL (by assumption) (by with_unfolding_all rfl) ?_ | with_reducible refine x_ixT (by with_unfolding_all rfl) ?_ | with_reducible refine x_lenL (by assumption) ?_ | with_reducible refine x_gSubR (by assumption) (by with_unfolding_all rfl) ?_ | with_reducible refine x_lc (by dsimp only [wipeE, setE] <;> with_unfolding_all rfl) ?_))
    refine x_mod hmm.1 ?_
    (repeat (first | with_reducible apply x_seq | with_reducible apply x_asg | with_reducible apply x_ret | with_reducible apply x_retN | with_reducible apply x_drop | with_reducible apply x_next | with_reducible apply x_break | with_reducible apply x_cont | with_reducible apply x_if | with_reducible apply x_par | with_reducible apply x_for | with_reducible apply x_c | with_reducible apply x_d1 | with_reducible apply x_d2 | with_reducible apply x_nil | with_reducible apply x_cons | with_reducible apply x_args | with_reducible apply x_call | with_reducible apply x_test | with_reducible apply x_asB | with_reducible apply x_andT | with_reducible apply x_orT | with_reducible apply x_notT | with_reducible apply x_andV | with_reducible apply x_orV | with_reducible apply x_notV | with_reducible apply x_ifE | with_reducible apply x_chain | with_reducible apply x_tup | with_reducible apply x_lst | with_reducible apply x_yes | with_reducible apply x_isi | with_reducible apply x_meth | with_reducible apply x_meth0 | with_reducible apply x_methLT | with_reducible apply x_methLTt | with_reducible apply x_gTup | with_reducible apply x_gWtup | with_reducible apply x_gnn | with_reducible apply x_gSub | with_reducible apply x_add | with_reducible apply x_sub | with_reducible apply x_neg | with_reducible apply x_lt | with_reducible apply x_le | with_reducible apply x_gt | with_reducible apply x_ge | with_reducible apply x_eq | with_reducible apply x_ne | with_reducible apply x_eqB | with_reducible apply x_neB | with_reducible apply x_is | with_reducible apply x_isNot | with_reducible apply x_lenT | with_reducible apply x_int | with_reducible apply x_tupT | with_reducible apply x_wSeq | with_reducible apply x_wT | with_reducible apply x_wR | with_reducible apply x_wRng1 | with_reducible apply x_wEnum | with_reducible apply x_dFld | with_reducible apply x_cut01 | with_reducible apply x_cut10 | with_reducible apply x_asI | with_reducible apply x_cutT | with_reducible apply x_iteT | with_reducible apply x_iteF | with_reducible apply x_max2 | with_reducible apply x_min2 | with_reducible apply x_bits | with_reducible refine x_var (by with_unfolding_all rfl) ?_ | with_reducible refine x_gName (by dsimp only [setE] <;> with_unfolding_all rfl) ?_ | with_reducible refine x_gnc (by dsimp only [setE] <;> with_unfolding_all rfl) ?_ | with_reducible refine x_len0 (by with_unfolding_all rfl) ?_ | with_reducible refine x_isiR (by with_unfolding_all exact True.intro) ?_ | with_reducible refine x_ixL (by assumption) (by with_unfolding_all rfl) ?_ | with_reducible refine x_ixT (by with_unfolding_all rfl) ?_ | with_reducible refine x_lenL (by assumption) ?_ | with_reducible refine x_gSubR (by assumption) (by with_unfolding_all rfl) ?_ | with_reducible refine x_lc (by dsimp only [wipeE, setE] <;> with_unfolding_all rfl) ?_))
    refine x_ixL lstAt_put (by rfl) ?_
    (repeat (first | with_reducible apply x_seq | with_reducible apply x_asg | with_reducible apply x_ret | with_reducible apply x_retN | with_reducible apply x_drop | with_reducible apply x_next | with_reducible apply x_break | with_reducible apply x_cont | with_reducible apply x_if | with_reducible apply x_par | with_reducible apply x_for | with_reducible apply x_c | with_reducible apply x_d1 | with_reducible apply x_d2 | with_reducible apply x_nil | with_reducible apply x_cons | with_reducible apply x_args | with_reducible apply x_call | with_reducible apply x_test | with_reducible apply x_asB | with_reducible apply x_andT | with_reducible apply x_orT | with_reducible apply x_notT | with_reducible apply x_andV | with_reducible apply x_orV | with_reducible apply x_notV | with_reducible apply x_ifE | with_reducible apply x_chain | with_reducible apply x_tup | with_reducible apply x_lst | with_reducible apply x_yes | with_reducible apply x_isi | with_reducible apply x_meth | with_reducible apply x_meth0 | with_reducible apply x_methLT | with_reducible apply x_methLTt | with_reducible apply x_gTup | with_reducible apply x_gWtup | with_reducible apply x_gnn | with_reducible apply x_gSub | with_reducible apply x_add | with_reducible apply x_sub | with_reducible apply x_neg | with_reducible apply x_lt | with_reducible apply x_le | with_reducible apply x_gt | with_reducible apply x_ge | with_reducible apply x_eq | with_reducible apply x_ne | with_reducible apply x_eqB | with_reducible apply x_neB | with_reducible apply x_is | with_reducible apply x_isNot | with_reducible apply x_lenT | with_reducible apply x_int | with_reducible apply x_tupT | with_reducible apply x_wSeq | with_reducible apply x_wT | with_reducible apply x_wR | with_reducible apply x_wRng1 | with_reducible apply x_wEnum | with_reducible apply x_dFld | with_reducible apply x_cut01 | with_reducible apply x_cut10 | with_reducible apply x_asI | with_reducible apply x_cutT | with_reducible apply x_iteT | with_reducible apply x_iteF | with_reducible apply x_max2 | with_reducible apply x_min2 | with_reducible apply x_bits | with_reducible refine x_var (by with_unfolding_all rfl) ?_ | with_reducible refine x_gName (by dsimp only [setE] <;> with_unfolding_all rfl) ?_ | with_reducible refine x_gnc (by dsimp only [setE] <;> with_unfolding_all rfl) ?_ | with_reducible refine x_len0 (by with_unfolding_all rfl) ?_ | with_reducible refine x_isiR (by with_unfolding_all exact True.intro) ?_ | with_reducible refine x_ixL (by assumption) (by with_unfolding_all rfl) ?_ | with_reducible refine x_ixT (by with_unfolding_all rfl) ?_ | with_reducible refine x_lenL (by assumption) ?_ | with_reducible refine x_gSubR (by assumption) (by with_unfolding_all rfl) ?_ | with_reducible refine x_lc (by dsimp only [wipeE, setE] <;> with_unfolding_all rfl) ?_))
    refine x_div (div_ok 31 (by decide) (by decide) (by decide)) ?_
    (repeat (first | with_reducible apply x_seq | with_reducible apply x_asg | with_reducible apply x_ret | with_reducible apply x_retN | with_reducible apply x_drop | with_reducible apply x_next | with_reducible apply x_break | with_reducible apply x_cont | with_reducible apply x_if | with_reducible apply x_par | with_reducible apply x_for | with_reducible apply x_c | with_reducible apply x_d1 | with_reducible apply x_d2 | with_reducible apply x_nil | with_reducible apply x_cons | with_reducible apply x_args | with_reducible apply x_call | with_reducible apply x_test | with_reducible apply x_asB | with_reducible apply x_andT | with_reducible apply x_orT | with_reducible apply x_notT | with_reducible apply x_andV | with_reducible apply x_orV | with_reducible apply x_notV | with_reducible apply x_ifE | with_reducible apply x_chain | with_reducible apply x_tup | with_reducible apply x_lst | with_reducible apply x_yes | with_reducible apply x_isi | with_reducible apply x_meth | with_reducible apply x_meth0 | with_reducible apply x_methLT | with_reducible apply x_methLTt | with_reducible apply x_gTup | with_reducible apply x_gWtup | with_reducible apply x_gnn | with_reducible apply x_gSub | with_reducible apply x_add | with_reducible apply x_sub | with_reducible apply x_neg | with_reducible apply x_lt | with_reducible apply x_le | with_reducible apply x_gt | with_reducible apply x_ge | with_reducible apply x_eq | with_reducible apply x_ne | with_reducible apply x_eqB | with_reducible apply x_neB | with_reducible apply x_is | with_reducible apply x_isNot | with_reducible apply x_lenT | with_reducible apply x_int | with_reducible apply x_tupT | with_reducible apply x_wSeq | with_reducible apply x_wT | with_reducible apply x_wR | with_reducible apply x_wRng1 | with_reducible apply x_wEnum | with_reducible apply x_dFld | with_reducible apply x_cut01 | with_reducible apply x_cut10 | with_reducible apply x_asI | with_reducible apply x_cutT | with_reducible apply x_iteT | with_reducible apply x_iteF | with_reducible apply x_max2 | with_reducible apply x_min2 | with_reducible apply x_bits | with_reducible refine x_var (by with_unfolding_all rfl) ?_ | with_reducible refine x_gName (by dsimp only [setE] <;> with_unfolding_all rfl) ?_ | with_reducible refine x_gnc (by dsimp only [setE] <;> with_unfolding_all rfl) ?_ | with_reducible refine x_len0 (by with_unfolding_all rfl) ?_ | with_reducible refine x_isiR (by with_unfolding_all exact True.intro) ?_ | with_reducible refine x_ixL (by assumption) (by with_unfolding_all rfl) ?_ | with_reducible refine x_ixT (by with_unfolding_all rfl) ?_ | with_reducible refine x_lenL (by assumption) ?_ | with_reducible refine x_gSubR (by assumption) (by with_unfolding_all rfl) ?_ | with_reducible refine x_lc (by dsimp only [wipeE, setE] <;> with_unfolding_all rfl) ?_))
    refine x_mod (by omega) ?_
    have h1 : (w * a + c) % m < m := Int.emod_lt_of_pos _ hmm.1
    refine h _ _ (Int.emod_nonneg _ (by omega)) (Int.emod_lt_of_pos _ (by omega)) ⟨ds, (w * a + c) % m, r, lstAt_put, by rw [lstAt_ne hpq.symm]; exact e2, hpq, Int.emod_nonneg _ (by omega), by omega, hr, hd⟩ fun b o h1 _ e => by rw [put_ne h1]; exact e
theorem t_spend {a c m : Int} {p q : Nat} {μ : Sto} {many : Int} {Q : QE} {E : QX} (hm2 : many < 2 ^ 64) (ha : 0 ≤ a ∧ a < 2 ^ 31) (hc : 0 ≤ c) (hmm : 0 < m ∧ m ≤ 2 ^ 31) (P : Pu p q μ)
    (h : ∀ (t : Int) μ', 0 ≤ t → (t < many ∨ many < 2 ∧ t = 0) → Pu p q μ' → Fr p q μ μ' → Q (.int t) μ') : prBody 2 1 (spendB a c m) [.loc p, .int many] μ Q E := by
  refine pr_mk rfl ?_
  unfold spendB
  show sSeq _ _ _ [some (.loc p), some (.int many), none] μ
  (repeat (first | with_reducible apply x_seq | with_reducible apply x_asg | with_reducible apply x_ret | with_reducible apply x_retN | with_reducible apply x_drop | with_reducible apply x_next | with_reducible apply x_break | with_reducible apply x_cont | with_reducible apply x_if | with_reducible apply x_par | with_reducible apply x_for | with_reducible apply x_c | with_reducible apply x_d1 | with_reducible apply x_d2 | with_reducible apply x_nil | with_reducible apply x_cons | with_reducible apply x_args | with_reducible apply x_call | with_reducible apply x_test | with_reducible apply x_asB | with_reducible apply x_andT | with_reducible apply x_orT | with_reducible apply x_notT | with_reducible apply x_andV | with_reducible apply x_orV | with_reducible apply x_notV | with_reducible apply x_ifE | with_reducible apply x_chain | with_reducible apply x_tup | with_reducible apply x_lst | with_reducible apply x_yes | with_reducible apply x_isi | with_reducible apply x_meth | with_reducible apply x_meth0 | with_reducible apply x_methLT | with_reducible apply x_methLTt | with_reducible apply x_gTup | with_reducible apply x_gWtup | with_reducible apply x_gnn | with_reducible apply x_gSub | with_reducible apply x_add | with_reducible apply x_sub | with_reducible apply x_neg | with_reducible apply x_lt | with_reducible apply x_le | with_reducible apply x_gt | with_reducible apply x_ge | with_reducible apply x_eq | with_reducible apply x_ne | with_reducible apply x_eqB | with_reducible apply x_neB | with_reducible apply x_is | with_reducible apply x_isNot | with_reducible apply x_lenT | with_reducible apply x_int | with_reducible apply x_tupT | with_reducible apply x_wSeq | with_reducible apply x_wT | with_reducible apply x_wR | with_reducible apply x_wRng1 | with_reducible apply x_wEnum | with_reducible apply x_dFld | with_reducible apply x_cut01 | with_reducible apply x_cut10 | with_reducible apply x_asI | with_reducible apply x_cutT | with_reducible apply x_iteT | with_reducible apply x_iteF | with_reducible apply x_max2 | with_reducible apply x_min2 | with_reducible apply x_bits | with_reducible refine x_var (by with_unfolding_all rfl) ?_ | with_reducible refine x_gName (by dsimp only [setE] <;> with_unfolding_all rfl) ?_ | with_reducible refine x_gnc (by dsimp only [setE] <;> with_unfolding_all rfl) ?_ | with_reducible refine x_len0 (by with_unfolding_all rfl) ?_ | with_reducible refine x_isiR (by with_unfolding_all exact True.intro) ?_ | with_reducible refine x_ixL (by assumption) (by with_unfolding_all rfl) ?_ | with_reducible refine x_ixT (by with_unfolding_all rfl) ?_ | with_reducible refine x_lenL (by assumption) ?_ | with_reducible refine x_gSubR (by assumption) (by with_unfolding_all rfl) ?_ | with_reducible refine x_lc (by dsimp only [wipeE, setE] <;> with_unfolding_all rfl) ?_))
  refine x_ite (fun h2 => ?_) (fun h2 => ?_)
  · (repeat (first | with_reducible apply x_seq | with_reducible apply x_asg | with_reducible apply x_ret | with_reducible apply x_retN | with_reducible apply x_drop | with_reducible apply x_next | with_reducible apply x_break | with_reducible apply x_cont | with_reducible apply x_if | with_reducible apply x_par | with_reducible apply x_for | with_reducible apply x_c | with_reducible apply x_d1 | with_reducible apply x_d2 | with_reducible apply x_nil | with_reducible apply x_cons | with_reducible apply x_args | with_reducible apply x_call | with_reducible apply x_test | with_reducible apply x_asB | with_reducible apply x_andT | with_reducible apply x_orT | with_reducible apply x_notT | with_reducible apply x_andV | with_reducible apply x_orV | with_reducible apply x_notV | with_reducible apply x_ifE | with_reducible apply x_chain | with_reducible apply x_tup | with_reducible apply x_lst | with_reducible apply x_yes | with_reducible apply x_isi | with_reducible apply x_meth | with_reducible apply x_meth0 | with_reducible apply x_methLT | with_reducible apply x_methLTt | with_reducible apply x_gTup | with_reducible apply x_gWtup | with_reducible apply x_gnn | with_reducible apply x_gSub | with_reducible apply x_add | with_reducible apply x_sub | with_reducible apply x_neg | with_reducible apply x_lt | with_reducible apply x_le | with_reducible apply x_gt | with_reducible apply x_ge | with_reducible apply x_eq | with_reducible apply x_ne | with_reducible apply x_eqB | with_reducible apply x_neB | with_reducible apply x_is | with_reducible apply x_isNot | with_reducible apply x_lenT | with_reducible apply x_int | with_reducible apply x_tupT | with_reducible apply x_wSeq | with_reducible apply x_wT | with_reducible apply x_wR | with_reducible apply x_wRng1 | with_reducible apply x_wEnum | with_reducible apply x_dFld | with_reducible apply x_cut01 | with_reducible apply x_cut10 | with_reducible apply x_asI | with_reducible apply x_cutT | with_reducible apply x_iteT | with_reducible apply x_iteF | with_reducible apply x_max2 | with_reducible apply x_min2 | with_reducible apply x_bits | with_reducible refine x_var (by with_unfolding_all rfl) ?_ | with_reducible refine x_gName (by dsimp only [setE] <;> with_unfolding_all rfl) ?_ | with_reducible refine x_gnc (by dsimp only [setE] <;> with_unfolding_all rfl) ?_ | with_reducible refine x_len0 (by with_unfolding_all rfl) ?_ | with_reducible refine x_isiR (by with_unfolding_all exact True.intro) ?_ | with_reducible refine x_ixL (by assumption) (by with_unfolding_all rfl) ?_ | with_reducible refine x_ixT (by with_unfolding_all rfl) ?_ | with_reducible refine x_lenL (by assumption) ?_ | with_reducible refine x_gSubR (by assumption) (by with_unfolding_all rfl) ?_ | with_reducible refine x_lc (by dsimp only [wipeE, setE] <;> with_unfolding_all rfl) ?_))
    exact h 0 μ (by omega) (.inr ⟨h2, rfl⟩) P (.refl _)
  · obtain ⟨ds, w, r, e1, e2, hpq, hw, hw2, hr, hd⟩ := P
    (repeat (first | with_reducible apply x_seq | with_reducible apply x_asg | with_reducible apply x_ret | with_reducible apply x_retN | with_reducible apply x_drop | with_reducible apply x_next | with_reducible apply x_break | with_reducible apply x_cont | with_reducible apply x_if | with_reducible apply x_par | with_reducible apply x_for | with_reducible apply x_c | with_reducible apply x_d1 | with_reducible apply x_d2 | with_reducible apply x_nil | with_reducible apply x_cons | with_reducible apply x_args | with_reducible apply x_call | with_reducible apply x_test | with_reducible apply x_asB | with_reducible apply x_andT | with_reducible apply x_orT | with_reducible apply x_notT | with_reducible apply x_andV | with_reducible apply x_orV | with_reducible apply x_notV | with_reducible apply x_ifE | with_reducible apply x_chain | with_reducible apply x_tup | with_reducible apply x_lst | with_reducible apply x_yes | with_reducible apply x_isi | with_reducible apply x_meth | with_reducible apply x_meth0 | with_reducible apply x_methLT | with_reducible apply x_methLTt | with_reducible apply x_gTup | with_reducible apply x_gWtup | with_reducible apply x_gnn | with_reducible apply x_gSub | with_reducible apply x_add | with_reducible apply x_sub | with_reducible apply x_neg | with_reducible apply x_lt | with_reducible apply x_le | with_reducible apply x_gt | with_reducible apply x_ge | with_reducible apply x_eq | with_reducible apply x_ne | with_reducible apply x_eqB | with_reducible apply x_neB | with_reducible apply x_is | with_reducible apply x_isNot | with_reducible apply x_lenT | with_reducible apply x_int | with_reducible apply x_tupT | with_reducible apply x_wSeq | with_reducible apply x_wT | with_reducible apply x_wR | with_reducible apply x_wRng1 | with_reducible apply x_wEnum | with_reducible apply x_dFld | with_reducible apply x_cut01 | with_reducible apply x_cut10 | with_reducible apply x_asI | with_reducible apply x_cutT | with_reducible apply x_iteT | with_reducible apply x_iteF | with_reducible apply x_max2 | with_reducible apply x_min2 | with_reducible apply x_bits | with_reducible refine x_var (by with_unfolding_all rfl) ?_ | with_reducible refine x_gName (by dsimp only [setE] <;> with_unfolding_all rfl) ?_ | with_reducible refine x_gnc (by dsimp only [setE] <;> with_unfolding_all rfl) ?_ | with_reducible refine x_len0 (by with_unfolding_all rfl) ?_ | with_reducible refine x_isiR (by with_unfolding_all exact True.intro) ?_ | with_reducible refine x_ixL (by assumption) (by with_unfolding_all rfl) ?_ | with_reducible refine x_ixT (by with_unfolding_all rfl) ?_ | with_reducible refine x_lenL (by assumption) ?_ | with_reducible refine x_gSubR (by assumption) (by with_unfolding_all rfl) ?_ | with_reducible refine x_lc (by dsimp only [wipeE, setE] <;> with_unfolding_all rfl) ?_))
    refine x_ite (fun h0 => ?_) (fun h0 => ?_)
    · (repeat (first | with_reducible apply x_seq | with_reducible apply x_asg | with_reducible apply x_ret | with_reducible apply x_retN | with_reducible apply x_drop | with_reducible apply x_next | with_reducible apply x_break | with_reducible apply x_cont | with_reducible apply x_if | with_reducible apply x_par | with_reducible apply x_for | with_reducible apply x_c | with_reducible apply x_d1 | with_reducible apply x_d2 | with_reducible apply x_nil | with_reducible apply x_cons | with_reducible apply x_args | with_reducible apply x_call | with_reducible apply x_test | with_reducible apply x_asB | with_reducible apply x_andT | with_reducible apply x_orT | with_reducible apply x_notT | with_reducible apply x_andV | with_reducible apply x_orV | with_reducible apply x_notV | with_reducible apply x_ifE | with_reducible apply x_chain | with_reducible apply x_tup | with_reducible apply x_lst | with_reducible apply x_yes | with_reducible apply x_isi | with_reducible apply x_meth | with_reducible apply x_meth0 | with_reducible apply x_methLT | with_reducible apply x_methLTt | with_reducible apply x_gTup | with_reducible apply x_gWtup | with_reducible apply x_gnn | with_reducible apply x_gSub | with_reducible apply x_add | with_reducible apply x_sub | with_reducible apply x_neg | with_reducible apply x_lt | with_reducible apply x_le | with_reducible apply x_gt | with_reducible apply x_ge | with_reducible apply x_eq | with_reducible apply x_ne | with_reducible apply x_eqB | with_reducible apply x_neB | with_reducible apply x_is | with_reducible apply x_isNot | with_reducible apply x_lenT | with_reducible apply x_int | with_reducible apply x_tupT | with_reducible apply x_wSeq | with_reducible apply x_wT | with_reducible apply x_wR | with_reducible apply x_wRng1 | with_reducible apply x_wEnum | with_reducible apply x_dFld | with_reducible apply x_cut01 | with_reducible apply x_cut10 | with_reducible apply x_asI | with_reducible apply x_cutT | with_reducible apply x_iteT | with_reducible apply x_iteF | with_reducible apply x_max2 | with_reducible apply x_min2 | with_reducible apply x_bits | with_reducible refine x_var (by with_unfolding_all rfl) ?_ | with_reducible refine x_gName (by dsimp only [setE] <;> with_unfolding_all rfl) ?_ | with_reducible refine x_gnc (by dsimp only [setE] <;> with_unfolding_all rfl) ?_ | with_reducible refine x_len0 (by with_unfolding_all rfl) ?_ | with_reducible refine x_isiR (by with_unfolding_all exact True.intro) ?_ | with_reducible refine x_ixL (by assumption) (by with_unfolding_all rfl) ?_ | with_reducible refine x_ixT (by with_unfolding_all rfl) ?_ | with_reducible refine x_lenL (by assumption) ?_ | with_reducible refine x_gSubR (by assumption) (by with_unfolding_all rfl) ?_ | with_reducible refine x_lc (by dsimp only [wipeE, setE] <;> with_unfolding_all rfl) ?_))
      refine x_ite (fun h3 => ?_) (fun h3 => ?_)
      · obtain ⟨ds', d, rfl⟩ := list_last ds (by intro z; subst z; simp at h3)
        (repeat (first | with_reducible apply x_seq | with_reducible apply x_asg | with_reducible apply x_ret | with_reducible apply x_retN | with_reducible apply x_drop | with_reducible apply x_next | with_reducible apply x_break | with_reducible apply x_cont | with_reducible apply x_if | with_reducible apply x_par | with_reducible apply x_for | with_reducible apply x_c | with_reducible apply x_d1 | with_reducible apply x_d2 | with_reducible apply x_nil | with_reducible apply x_cons | with_reducible apply x_args | with_reducible apply x_call | with_reducible apply x_test | with_reducible apply x_asB | with_reducible apply x_andT | with_reducible apply x_orT | with_reducible apply x_notT | with_reducible apply x_andV | with_reducible apply x_orV | with_reducible apply x_notV | with_reducible apply x_ifE | with_reducible apply x_chain | with_reducible apply x_tup | with_reducible apply x_lst | with_reducible apply x_yes | with_reducible apply x_isi | with_reducible apply x_meth | with_reducible apply x_meth0 | with_reducible apply x_methLT | with_reducible apply x_methLTt | with_reducible apply x_gTup | with_reducible apply x_gWtup | with_reducible apply x_gnn | with_reducible apply x_gSub | with_reducible apply x_add | with_reducible apply x_sub | with_reducible apply x_neg | with_reducible apply x_lt | with_reducible apply x_le | with_reducible apply x_gt | with_reducible apply x_ge | with_reducible apply x_eq | with_reducible apply x_ne | with_reducible apply x_eqB | with_reducible apply x_neB | with_reducible apply x_is | with_reducible apply x_isNot | with_reducible apply x_lenT | with_reducible apply x_int | with_reducible apply x_tupT | with_reducible apply x_wSeq | with_reducible apply x_wT | with_reducible apply x_wR | with_reducible apply x_wRng1 | with_reducible apply x_wEnum | with_reducible apply x_dFld | with_reducible apply x_cut01 | with_reducible apply x_cut10 | with_reducible apply x_asI | with_reducible apply x_cutT | with_reducible apply x_iteT | with_reducible apply x_iteF | with_reducible apply x_max2 | with_reducible apply x_min2 | with_reducible apply x_bits | with_reducible refine x_var (by with_unfolding_all rfl) ?_ | with_reducible refine x_gName (by dsimp only [setE] <;> with_unfolding_all rfl) ?_ | with_reducible refine x_gnc (by dsimp only [setE] <;> with_unfolding_all rfl) ?_ | with_reducible refine x_len0 (by with_unfolding_all rfl) ?_ | with_reducible refine x_isiR (by with_unfolding_all exact True.intro) ?_ | with_reducible refine x_ixL (by assumption) (by with_unfolding_all rfl) ?_ | with_reducible refine x_ixT (by with_unfolding_all rfl) ?_ | with_reducible refine x_lenL (by assumption) ?_ | with_reducible refine x_gSubR (by assumption) (by with_unfolding_all rfl) ?_ | with_reducible refine x_lc (by dsimp only [wipeE, setE] <;> with_unfolding_all rfl) ?_))
        refine x_meth0L e2 ?_
        refine x_pop (y := .int d) (xs := ds'.map D.int) (by rw [e2, List.map_append]; rfl) ?_
        (repeat (first | with_reducible apply x_seq | with_reducible apply x_asg | with_reducible apply x_ret | with_reducible apply x_retN | with_reducible apply x_drop | with_reducible apply x_next | with_reducible apply x_break | with_reducible apply x_cont | with_reducible apply x_if | with_reducible apply x_par | with_reducible apply x_for | with_reducible apply x_c | with_reducible apply x_d1 | with_reducible apply x_d2 | with_reducible apply x_nil | with_reducible apply x_cons | with_reducible apply x_args | with_reducible apply x_call | with_reducible apply x_test | with_reducible apply x_asB | with_reducible apply x_andT | with_reducible apply x_orT | with_reducible apply x_notT | with_reducible apply x_andV | with_reducible apply x_orV | with_reducible apply x_notV | with_reducible apply x_ifE | with_reducible apply x_chain | with_reducible apply x_tup | with_reducible apply x_lst | with_reducible apply x_yes | with_reducible apply x_isi | with_reducible apply x_meth | with_reducible apply x_meth0 | with_reducible apply x_methLT | with_reducible apply x_methLTt | with_reducible apply x_gTup | with_reducible apply x_gWtup | with_reducible apply x_gnn | with_reducible apply x_gSub | with_reducible apply x_add | with_reducible apply x_sub | with_reducible apply x_neg | with_reducible apply x_lt | with_reducible apply x_le | with_reducible apply x_gt | with_reducible apply x_ge | with_reducible apply x_eq | with_reducible apply x_ne | with_reducible apply x_eqB | with_reducible apply x_neB | with_reducible apply x_is | with_reducible apply x_isNot | with_reducible apply x_lenT | with_reducible apply x_int | with_reducible apply x_tupT | with_reducible apply x_wSeq | with_reducible apply x_wT | with_reducible apply x_wR | with_reducible apply x_wRng1 | with_reducible apply x_wEnum | with_reducible apply x_dFld | with_reducible apply x_cut01 | with_reducible apply x_cut10 | with_reducible apply x_asI | with_reducible apply x_cutT | with_reducible apply x_iteT | with_reducible apply x_iteF | with_reducible apply x_max2 | with_reducible apply x_min2 | with_reducible apply x_bits | with_reducible refine x_var (by with_unfolding_all rfl) ?_ | with_reducible refine x_gName (by dsimp only [setE] <;> with_unfolding_all rfl) ?_ | with_reducible refine x_gnc (by dsimp only [setE] <;> with_unfolding_all rfl) ?_ | with_reducible refine x_len0 (by with_unfolding_all rfl) ?_ | with_reducible refine x_isiR (by with_unfolding_all exact True.intro) ?_ | with_reducible refine x_ixL (by assumption) (by with_unfolding_all rfl) ?_ | with_reducible refine x_ixT (by with_unfolding_all rfl) ?_ | with_reducible refine x_lenL (by assumption) ?_ | with_reducible refine x_gSubR (by assumption) (by with_unfolding_all rfl) ?_ | with_reducible refine x_lc (by dsimp only [wipeE, setE] <;> with_unfolding_all rfl) ?_))
        have e1' : lstAt (put μ q (.lst (ds'.map D.int))) p = some [.loc q, .int w, .int r] := by rw [lstAt_ne hpq]; exact e1
        refine x_gSubR e1' (by rfl) ?_
        refine spend_tail (μ := put (put μ q (.lst (ds'.map D.int))) p (.lst [.loc q, .int w, .int d])) (by omega) hm2 ha hc hmm lstAt_put (by rw [lstAt_ne hpq.symm]; exact lstAt_put) hpq hw hw2 (hd d (by simp)) (fun x hx => hd x (by simp [hx])) fun t μ' h1 h4 P' F => h t μ' h1 (.inl h4) P' fun b o k1 k2 e => F b o k1 k2 (by rw [put_ne k1, put_ne k2]; exact e)
      · refine x_next ?_
        exact spend_tail (by omega) hm2 ha hc hmm e1 e2 hpq hw hw2 hr hd fun t μ' h1 h4 P' F => h t μ' h1 (.inl h4) P' F
    · refine x_iteF (x_next ?_)
      exact spend_tail (by omega) hm2 ha hc hmm e1 e2 hpq hw hw2 hr hd fun t μ' h1 h4 P' F => h t μ' h1 (.inl h4) P' F
end PD
set_option linter.all false
set_option maxRecDepth 100000
/-! PDHelp2: rows, ==, the purse's making, greatest common parts. -/
namespace PD
open PySem
theorem Fr.lst {p q l : Nat} {μ μ' : Sto} {xs : List D} (h : Fr p q μ μ') (h1 : l ≠ p) (h2 : l ≠ q) (e : lstAt μ l = some xs) : lstAt μ' l = some xs := lstAt_of (h l _ h1 h2 (lstAt_some e))
theorem ne_new {μ : Sto} {l p : Nat} {xs : List D} (e : lstAt μ l = some xs) (n : μ p = none) : l ≠ p := by
  intro z; subst z; rw [lstAt_some e] at n; cases n
theorem Pu.new {p q l : Nat} {μ : Sto} {o : O} (P : Pu p q μ) (n : μ l = none) : Pu p q (put μ l o) := by
  obtain ⟨ds, w, r, e1, e2, rest⟩ := P
  exact ⟨ds, w, r, by rw [lstAt_ne (ne_new e1 n)]; exact e1, by rw [lstAt_ne (ne_new e2 n)]; exact e2, rest⟩
theorem Pu.put {p q l : Nat} {μ : Sto} {o : O} (P : Pu p q μ) (h1 : l ≠ p) (h2 : l ≠ q) : Pu p q (put μ l o) := by
  obtain ⟨ds, w, r, e1, e2, rest⟩ := P
  exact ⟨ds, w, r, by rw [lstAt_ne h1.symm]; exact e1, by rw [lstAt_ne h2.symm]; exact e2, rest⟩
theorem Fr.new {p q l : Nat} {μ μ' : Sto} {o : O} (h : Fr p q μ μ') (n : μ l = none) : Fr p q μ (put μ' l o) := fun a u h1 h2 e => by
  have : a ≠ l := by intro z; subst z; rw [e] at n; cases n
  rw [put_ne this]; exact h a u h1 h2 e
theorem Pu.ne {p q l : Nat} {μ : Sto} (P : Pu p q μ) (n : μ l = none) : l ≠ p ∧ l ≠ q := by
  obtain ⟨ds, w, r, e1, e2, _⟩ := P
  exact ⟨(ne_new e1 n).symm, (ne_new e2 n).symm⟩
theorem Fr.none {p q l : Nat} {μ : Sto} {o : O} (n : μ l = Option.none) : Fr p q μ (PD.put μ l o) := (Fr.refl μ).new n
/-- draws, told by what they keep -/
def SpOk (pr : Pr) : Prop := ∀ (p q : Nat) (μ : Sto) (many : Int) (Q : QE) (E : QX), many < 2 ^ 64 → Pu p q μ →
  (∀ (t : Int) μ', 0 ≤ t → (t < many ∨ many < 2 ∧ t = 0) → Pu p q μ' → Fr p q μ μ' → Q (.int t) μ') → pr [.loc p, .int many] μ Q E
theorem sp_ok {a c m : Int} (ha : 0 ≤ a ∧ a < 2 ^ 31) (hc : 0 ≤ c) (hmm : 0 < m ∧ m ≤ 2 ^ 31) : SpOk (prBody 2 1 (spendB a c m)) := fun _ _ _ _ _ _ h1 h2 h3 => t_spend h1 ha hc hmm h2 h3

theorem x_lenS {x : D} {μ : Sto} {xs : List D} {Q : QE} (e : seqOf x μ = some xs) (hs : ∀ z, x ≠ .str z) (h : Q (.int xs.length) μ) : aLen [x] μ Q := by
  show opt (lenOf x μ) _
  have e2 : lenOf x μ = some xs.length := by
    cases x <;> first | exact absurd rfl (hs _) | exact congrArg (Option.map List.length) e
  rw [e2]; exact h
/-! ### a row's one -/
def oneB (sp : Pr) : DS := sRet (d2 uIx (dVar 1) (dCall sp (dCons (dVar 0) (dCons (dArgs aLen (dCons (dVar 1) (dNil))) (dNil)))))
def OneOk (pr : Pr) : Prop := ∀ (p q : Nat) (μ : Sto) (row : D) (xs : List D) (Q : QE) (E : QX), Pu p q μ → seqOf row μ = some xs → (∀ l, row = .loc l → l ≠ p ∧ l ≠ q) → xs ≠ [] → xs.length < 2 ^ 64 →
  (∀ (d : D) μ', d ∈ xs → Pu p q μ' → Fr p q μ μ' → Q d μ') → pr [.loc p, row] μ Q E
theorem at_in {xs : List D} {t : Int} (h0 : 0 ≤ t) (h : t < xs.length) : ∃ d, atI xs t = some d ∧ d ∈ xs := by
  have hl : t.toNat < xs.length := by omega
  refine ⟨xs[t.toNat], ?_, List.getElem_mem hl⟩
  unfold atI ixN
  rw [if_pos h0, if_pos h]
  show xs[t.toNat]? = _
  rw [List.getElem?_eq_getElem hl]
theorem one_ok {sp : Pr} (S : SpOk sp) : OneOk (prBody 2 0 (oneB sp)) := fun p q μ row xs Q E P e ne hx hx2 h => by
  refine pr_mk rfl ?_
  unfold oneB
  show sRet _ _ [some (.loc p), some row] μ
  have hl : 0 < xs.length := List.length_pos_iff.mpr hx
  cases row with
  | tup ys =>
    have ey : ys = xs := by simpa [seqOf] using e
    subst ey
    (repeat (first | with_reducible apply x_seq | with_reducible apply x_asg | with_reducible apply x_ret | with_reducible apply x_retN | with_reducible apply x_drop | with_reducible apply x_next | with_reducible apply x_break | with_reducible apply x_cont | with_reducible apply x_if | with_reducible apply x_par | with_reducible apply x_for | with_reducible apply x_c | with_reducible apply x_d1 | with_reducible apply x_d2 | with_reducible apply x_nil | with_reducible apply x_cons | with_reducible apply x_args | with_reducible apply x_call | with_reducible apply x_test | with_reducible apply x_asB | with_reducible apply x_andT | with_reducible apply x_orT | with_reducible apply x_notT | with_reducible apply x_andV | with_reducible apply x_orV | with_reducible apply x_notV | with_reducible apply x_ifE | with_reducible apply x_chain | with_reducible apply x_tup | with_reducible apply x_lst | with_reducible apply x_yes | with_reducible apply x_isi | with_reducible apply x_meth | with_reducible apply x_meth0 | with_reducible apply x_methLT | with_reducible apply x_methLTt | with_reducible apply x_gTup | with_reducible apply x_gWtup | with_reducible apply x_gnn | with_reducible apply x_gSub | with_reducible apply x_add | with_reducible apply x_sub | with_reducible apply x_neg | with_reducible apply x_lt | with_reducible apply x_le | with_reducible apply x_gt | with_reducible apply x_ge | with_reducible apply x_eq | with_reducible apply x_ne | with_reducible apply x_eqB | with_reducible apply x_neB | with_reducible apply x_is | with_reducible apply x_isNot | with_reducible apply x_lenT | with_reducible apply x_int | with_reducible apply x_tupT | with_reducible apply x_wSeq | with_reducible apply x_wT | with_reducible apply x_wR | with_reducible apply x_wRng1 | with_reducible apply x_wEnum | with_reducible apply x_dFld | with_reducible apply x_cut01 | with_reducible apply x_cut10 | with_reducible apply x_asI | with_reducible apply x_cutT | with_reducible apply x_iteT | with_reducible apply x_iteF | with_reducible apply x_max2 | with_reducible apply x_min2 | with_reducible apply x_bits | with_reducible refine x_var (by with_unfolding_all rfl) ?_ | with_reducible refine x_gName (by dsimp only [setE] <;> with_unfolding_all rfl) ?_ | with_reducible refine x_gnc (by dsimp only [setE] <;> with_unfolding_all rfl) ?_ | with_reducible refine x_len0 (by with_unfolding_all rfl) ?_ | with_reducible refine x_isiR (by with_unfolding_all exact True.intro) ?_ | with_reducible refine x_ixL (by assumption) (by with_unfolding_all rfl) ?_ | with_reducible refine x_ixT (by with_unfolding_all rfl) ?_ | with_reducible refine x_lenL (by assumption) ?_ | with_reducible refine x_gSubR (by assumption) (by with_unfolding_all rfl) ?_ | with_reducible refine x_lc (by dsimp only [wipeE, setE] <;> with_unfolding_all rfl) ?_))
    refine S p q μ _ _ _ (by omega) P fun t μ' h0 h1 P' F => ?_
    obtain ⟨d, e1, e2⟩ := at_in (xs := ys) h0 (by omega)
    exact x_ixT e1 (h d μ' e2 P' F)
  | loc l =>
    have e0 : lstAt μ l = some xs := e
    obtain ⟨n1, n2⟩ := ne l rfl
    (repeat (first | with_reducible apply x_seq | with_reducible apply x_asg | with_reducible apply x_ret | with_reducible apply x_retN | with_reducible apply x_drop | with_reducible apply x_next | with_reducible apply x_break | with_reducible apply x_cont | with_reducible apply x_if | with_reducible apply x_par | with_reducible apply x_for | with_reducible apply x_c | with_reducible apply x_d1 | with_reducible apply x_d2 | with_reducible apply x_nil | with_reducible apply x_cons | with_reducible apply x_args | with_reducible apply x_call | with_reducible apply x_test | with_reducible apply x_asB | with_reducible apply x_andT | with_reducible apply x_orT | with_reducible apply x_notT | with_reducible apply x_andV | with_reducible apply x_orV | with_reducible apply x_notV | with_reducible apply x_ifE | with_reducible apply x_chain | with_reducible apply x_tup | with_reducible apply x_lst | with_reducible apply x_yes | with_reducible apply x_isi | with_reducible apply x_meth | with_reducible apply x_meth0 | with_reducible apply x_methLT | with_reducible apply x_methLTt | with_reducible apply x_gTup | with_reducible apply x_gWtup | with_reducible apply x_gnn | with_reducible apply x_gSub | with_reducible apply x_add | with_reducible apply x_sub | with_reducible apply x_neg | with_reducible apply x_lt | with_reducible apply x_le | with_reducible apply x_gt | with_reducible apply x_ge | with_reducible apply x_eq | with_reducible apply x_ne | with_reducible apply x_eqB | with_reducible apply x_neB | with_reducible apply x_is | with_reducible apply x_isNot | with_reducible apply x_lenT | with_reducible apply x_int | with_reducible apply x_tupT | with_reducible apply x_wSeq | with_reducible apply x_wT | with_reducible apply x_wR | with_reducible apply x_wRng1 | with_reducible apply x_wEnum | with_reducible apply x_dFld | with_reducible apply x_cut01 | with_reducible apply x_cut10 | with_reducible apply x_asI | with_reducible apply x_cutT | with_reducible apply x_iteT | with_reducible apply x_iteF | with_reducible apply x_max2 | with_reducible apply x_min2 | with_reducible apply x_bits | with_reducible refine x_var (by with_unfolding_all rfl) ?_ | with_reducible refine x_gName (by dsimp only [setE] <;> with_unfolding_all rfl) ?_ | with_reducible refine x_gnc (by dsimp only [setE] <;> with_unfolding_all rfl) ?_ | with_reducible refine x_len0 (by with_unfolding_all rfl) ?_ | with_reducible refine x_isiR (by with_unfolding_all exact True.intro) ?_ | with_reducible refine x_ixL (by assumption) (by with_unfolding_all rfl) ?_ | with_reducible refine x_ixT (by with_unfolding_all rfl) ?_ | with_reducible refine x_lenL (by assumption) ?_ | with_reducible refine x_gSubR (by assumption) (by with_unfolding_all rfl) ?_ | with_reducible refine x_lc (by dsimp only [wipeE, setE] <;> with_unfolding_all rfl) ?_))
    refine S p q μ _ _ _ (by omega) P fun t μ' h0 h1 P' F => ?_
    obtain ⟨d, e1, e2⟩ := at_in (xs := xs) h0 (by omega)
    exact x_ixL (F.lst n1 n2 e0) e1 (h d μ' e2 P' F)
  | rol ys =>
    have ey : ys = xs := by simpa [seqOf] using e
    subst ey
    (repeat (first | with_reducible apply x_seq | with_reducible apply x_asg | with_reducible apply x_ret | with_reducible apply x_retN | with_reducible apply x_drop | with_reducible apply x_next | with_reducible apply x_break | with_reducible apply x_cont | with_reducible apply x_if | with_reducible apply x_par | with_reducible apply x_for | with_reducible apply x_c | with_reducible apply x_d1 | with_reducible apply x_d2 | with_reducible apply x_nil | with_reducible apply x_cons | with_reducible apply x_args | with_reducible apply x_call | with_reducible apply x_test | with_reducible apply x_asB | with_reducible apply x_andT | with_reducible apply x_orT | with_reducible apply x_notT | with_reducible apply x_andV | with_reducible apply x_orV | with_reducible apply x_notV | with_reducible apply x_ifE | with_reducible apply x_chain | with_reducible apply x_tup | with_reducible apply x_lst | with_reducible apply x_yes | with_reducible apply x_isi | with_reducible apply x_meth | with_reducible apply x_meth0 | with_reducible apply x_methLT | with_reducible apply x_methLTt | with_reducible apply x_gTup | with_reducible apply x_gWtup | with_reducible apply x_gnn | with_reducible apply x_gSub | with_reducible apply x_add | with_reducible apply x_sub | with_reducible apply x_neg | with_reducible apply x_lt | with_reducible apply x_le | with_reducible apply x_gt | with_reducible apply x_ge | with_reducible apply x_eq | with_reducible apply x_ne | with_reducible apply x_eqB | with_reducible apply x_neB | with_reducible apply x_is | with_reducible apply x_isNot | with_reducible apply x_lenT | with_reducible apply x_int | with_reducible apply x_tupT | with_reducible apply x_wSeq | with_reducible apply x_wT | with_reducible apply x_wR | with_reducible apply x_wRng1 | with_reducible apply x_wEnum | with_reducible apply x_dFld | with_reducible apply x_cut01 | with_reducible apply x_cut10 | with_reducible apply x_asI | with_reducible apply x_cutT | with_reducible apply x_iteT | with_reducible apply x_iteF | with_reducible apply x_max2 | with_reducible apply x_min2 | with_reducible apply x_bits | with_reducible refine x_var (by with_unfolding_all rfl) ?_ | with_reducible refine x_gName (by dsimp only [setE] <;> with_unfolding_all rfl) ?_ | with_reducible refine x_gnc (by dsimp only [setE] <;> with_unfolding_all rfl) ?_ | with_reducible refine x_len0 (by with_unfolding_all rfl) ?_ | with_reducible refine x_isiR (by with_unfolding_all exact True.intro) ?_ | with_reducible refine x_ixL (by assumption) (by with_unfolding_all rfl) ?_ | with_reducible refine x_ixT (by with_unfolding_all rfl) ?_ | with_reducible refine x_lenL (by assumption) ?_ | with_reducible refine x_gSubR (by assumption) (by with_unfolding_all rfl) ?_ | with_reducible refine x_lc (by dsimp only [wipeE, setE] <;> with_unfolding_all rfl) ?_))
    refine x_lenS (xs := ys) rfl (by intro _ z; cases z) ?_
    (repeat (first | with_reducible apply x_seq | with_reducible apply x_asg | with_reducible apply x_ret | with_reducible apply x_retN | with_reducible apply x_drop | with_reducible apply x_next | with_reducible apply x_break | with_reducible apply x_cont | with_reducible apply x_if | with_reducible apply x_par | with_reducible apply x_for | with_reducible apply x_c | with_reducible apply x_d1 | with_reducible apply x_d2 | with_reducible apply x_nil | with_reducible apply x_cons | with_reducible apply x_args | with_reducible apply x_call | with_reducible apply x_test | with_reducible apply x_asB | with_reducible apply x_andT | with_reducible apply x_orT | with_reducible apply x_notT | with_reducible apply x_andV | with_reducible apply x_orV | with_reducible apply x_notV | with_reducible apply x_ifE | with_reducible apply x_chain | with_reducible apply x_tup | with_reducible apply x_lst | with_reducible apply x_yes | with_reducible apply x_isi | with_reducible apply x_meth | with_reducible apply x_meth0 | with_reducible apply x_methLT | with_reducible apply x_methLTt | with_reducible apply x_gTup | with_reducible apply x_gWtup | with_reducible apply x_gnn | with_reducible apply x_gSub | with_reducible apply x_add | with_reducible apply x_sub | with_reducible apply x_neg | with_reducible apply x_lt | with_reducible apply x_le | with_reducible apply x_gt | with_reducible apply x_ge | with_reducible apply x_eq | with_reducible apply x_ne | with_reducible apply x_eqB | with_reducible apply x_neB | with_reducible apply x_is | with_reducible apply x_isNot | with_reducible apply x_lenT | with_reducible apply x_int | with_reducible apply x_tupT | with_reducible apply x_wSeq | with_reducible apply x_wT | with_reducible apply x_wR | with_reducible apply x_wRng1 | with_reducible apply x_wEnum | with_reducible apply x_dFld | with_reducible apply x_cut01 | with_reducible apply x_cut10 | with_reducible apply x_asI | with_reducible apply x_cutT | with_reducible apply x_iteT | with_reducible apply x_iteF | with_reducible apply x_max2 | with_reducible apply x_min2 | with_reducible apply x_bits | with_reducible refine x_var (by with_unfolding_all rfl) ?_ | with_reducible refine x_gName (by dsimp only [setE] <;> with_unfolding_all rfl) ?_ | with_reducible refine x_gnc (by dsimp only [setE] <;> with_unfolding_all rfl) ?_ | with_reducible refine x_len0 (by with_unfolding_all rfl) ?_ | with_reducible refine x_isiR (by with_unfolding_all exact True.intro) ?_ | with_reducible refine x_ixL (by assumption) (by with_unfolding_all rfl) ?_ | with_reducible refine x_ixT (by with_unfolding_all rfl) ?_ | with_reducible refine x_lenL (by assumption) ?_ | with_reducible refine x_gSubR (by assumption) (by with_unfolding_all rfl) ?_ | with_reducible refine x_lc (by dsimp only [wipeE, setE] <;> with_unfolding_all rfl) ?_))
    refine S p q μ _ _ _ (by omega) P fun t μ' h0 h1 P' F => ?_
    obtain ⟨d, e1, e2⟩ := at_in (xs := ys) h0 (by omega)
    show opt (atI ys t) _
    rw [e1]
    exact h d μ' e2 P' F
  | wtup ys =>
    have ey : ys = xs := by simpa [seqOf] using e
    subst ey
    (repeat (first | with_reducible apply x_seq | with_reducible apply x_asg | with_reducible apply x_ret | with_reducible apply x_retN | with_reducible apply x_drop | with_reducible apply x_next | with_reducible apply x_break | with_reducible apply x_cont | with_reducible apply x_if | with_reducible apply x_par | with_reducible apply x_for | with_reducible apply x_c | with_reducible apply x_d1 | with_reducible apply x_d2 | with_reducible apply x_nil | with_reducible apply x_cons | with_reducible apply x_args | with_reducible apply x_call | with_reducible apply x_test | with_reducible apply x_asB | with_reducible apply x_andT | with_reducible apply x_orT | with_reducible apply x_notT | with_reducible apply x_andV | with_reducible apply x_orV | with_reducible apply x_notV | with_reducible apply x_ifE | with_reducible apply x_chain | with_reducible apply x_tup | with_reducible apply x_lst | with_reducible apply x_yes | with_reducible apply x_isi | with_reducible apply x_meth | with_reducible apply x_meth0 | with_reducible apply x_methLT | with_reducible apply x_methLTt | with_reducible apply x_gTup | with_reducible apply x_gWtup | with_reducible apply x_gnn | with_reducible apply x_gSub | with_reducible apply x_add | with_reducible apply x_sub | with_reducible apply x_neg | with_reducible apply x_lt | with_reducible apply x_le | with_reducible apply x_gt | with_reducible apply x_ge | with_reducible apply x_eq | with_reducible apply x_ne | with_reducible apply x_eqB | with_reducible apply x_neB | with_reducible apply x_is | with_reducible apply x_isNot | with_reducible apply x_lenT | with_reducible apply x_int | with_reducible apply x_tupT | with_reducible apply x_wSeq | with_reducible apply x_wT | with_reducible apply x_wR | with_reducible apply x_wRng1 | with_reducible apply x_wEnum | with_reducible apply x_dFld | with_reducible apply x_cut01 | with_reducible apply x_cut10 | with_reducible apply x_asI | with_reducible apply x_cutT | with_reducible apply x_iteT | with_reducible apply x_iteF | with_reducible apply x_max2 | with_reducible apply x_min2 | with_reducible apply x_bits | with_reducible refine x_var (by with_unfolding_all rfl) ?_ | with_reducible refine x_gName (by dsimp only [setE] <;> with_unfolding_all rfl) ?_ | with_reducible refine x_gnc (by dsimp only [setE] <;> with_unfolding_all rfl) ?_ | with_reducible refine x_len0 (by with_unfolding_all rfl) ?_ | with_reducible refine x_isiR (by with_unfolding_all exact True.intro) ?_ | with_reducible refine x_ixL (by assumption) (by with_unfolding_all rfl) ?_ | with_reducible refine x_ixT (by with_unfolding_all rfl) ?_ | with_reducible refine x_lenL (by assumption) ?_ | with_reducible refine x_gSubR (by assumption) (by with_unfolding_all rfl) ?_ | with_reducible refine x_lc (by dsimp only [wipeE, setE] <;> with_unfolding_all rfl) ?_))
    refine x_lenS (xs := ys) rfl (by intro _ z; cases z) ?_
    (repeat (first | with_reducible apply x_seq | with_reducible apply x_asg | with_reducible apply x_ret | with_reducible apply x_retN | with_reducible apply x_drop | with_reducible apply x_next | with_reducible apply x_break | with_reducible apply x_cont | with_reducible apply x_if | with_reducible apply x_par | with_reducible apply x_for | with_reducible apply x_c | with_reducible apply x_d1 | with_reducible apply x_d2 | with_reducible apply x_nil | with_reducible apply x_cons | with_reducible apply x_args | with_reducible apply x_call | with_reducible apply x_test | with_reducible apply x_asB | with_reducible apply x_andT | with_reducible apply x_orT | with_reducible apply x_notT | with_reducible apply x_andV | with_reducible apply x_orV | with_reducible apply x_notV | with_reducible apply x_ifE | with_reducible apply x_chain | with_reducible apply x_tup | with_reducible apply x_lst | with_reducible apply x_yes | with_reducible apply x_isi | with_reducible apply x_meth | with_reducible apply x_meth0 | with_reducible apply x_methLT | with_reducible apply x_methLTt | with_reducible apply x_gTup | with_reducible apply x_gWtup | with_reducible apply x_gnn | with_reducible apply x_gSub | with_reducible apply x_add | with_reducible apply x_sub | with_reducible apply x_neg | with_reducible apply x_lt | with_reducible apply x_le | with_reducible apply x_gt | with_reducible apply x_ge | with_reducible apply x_eq | with_reducible apply x_ne | with_reducible apply x_eqB | with_reducible apply x_neB | with_reducible apply x_is | with_reducible apply x_isNot | with_reducible apply x_lenT | with_reducible apply x_int | with_reducible apply x_tupT | with_reducible apply x_wSeq | with_reducible apply x_wT | with_reducible apply x_wR | with_reducible apply x_wRng1 | with_reducible apply x_wEnum | with_reducible apply x_dFld | with_reducible apply x_cut01 | with_reducible apply x_cut10 | with_reducible apply x_asI | with_reducible apply x_cutT | with_reducible apply x_iteT | with_reducible apply x_iteF | with_reducible apply x_max2 | with_reducible apply x_min2 | with_reducible apply x_bits | with_reducible refine x_var (by with_unfolding_all rfl) ?_ | with_reducible refine x_gName (by dsimp only [setE] <;> with_unfolding_all rfl) ?_ | with_reducible refine x_gnc (by dsimp only [setE] <;> with_unfolding_all rfl) ?_ | with_reducible refine x_len0 (by with_unfolding_all rfl) ?_ | with_reducible refine x_isiR (by with_unfolding_all exact True.intro) ?_ | with_reducible refine x_ixL (by assumption) (by with_unfolding_all rfl) ?_ | with_reducible refine x_ixT (by with_unfolding_all rfl) ?_ | with_reducible refine x_lenL (by assumption) ?_ | with_reducible refine x_gSubR (by assumption) (by with_unfolding_all rfl) ?_ | with_reducible refine x_lc (by dsimp only [wipeE, setE] <;> with_unfolding_all rfl) ?_))
    refine S p q μ _ _ _ (by omega) P fun t μ' h0 h1 P' F => ?_
    obtain ⟨d, e1, e2⟩ := at_in (xs := ys) h0 (by omega)
    exact x_ixW e1 (h d μ' e2 P' F)
  | _ => simp [seqOf] at e

/-! ### comprehensions that touch nothing -/
theorem lc_pure {G : Sto → Prop} {g : DG} {tt : DT} {te : DE} {ρ0 : Ev} {p : Nat} {Q : Sto → Prop} {μ0 : Sto} (all : List D) (c : D → Bool) (f : D → D) (hG : ∀ acc, G (put μ0 p (.lst acc)))
    (hs : ∀ x, x ∈ all → ∀ acc (R : QE) (N : Sto → Prop), (c x = true → R (f x) (put μ0 p (.lst acc))) → (c x = false → N (put μ0 p (.lst acc))) →
      g x ρ0 (put μ0 p (.lst acc)) (fun ρ1 μ1 => tt ρ1 μ1 (fun b μ2 => if b = true then te ρ1 μ2 R (fun _ _ => False) else N μ2) (fun _ _ => False)) (fun _ _ => False)) :
    ∀ xs acc, (∀ x ∈ xs, x ∈ all) → acc.length + xs.length ≤ LINE → Q (put μ0 p (.lst (acc ++ (xs.filter c).map f))) → lcW G g tt te ρ0 p Q xs (put μ0 p (.lst acc)) := by
  intro xs
  induction xs with
  | nil =>
    intro acc _ _ h
    rw [List.filter_nil, List.map_nil, List.append_nil] at h
    exact ⟨hG acc, h⟩
  | cons x xs ih =>
    intro acc ha hl h
    rw [List.length_cons] at hl
    refine ⟨hG acc, hs x (ha x (List.mem_cons_self ..)) acc _ _ (fun hc => ?_) (fun hc => ?_)⟩
    · rw [lstAt_put]
      refine ⟨by omega, ?_⟩
      rw [put_put]
      refine ih (acc ++ [f x]) (fun y hy => ha y (List.mem_cons_of_mem _ hy)) (by rw [List.length_append, List.length_singleton]; omega) ?_
      rw [List.filter_cons_of_pos hc, List.map_cons] at h
      rw [List.append_assoc]; exact h
    · refine ih acc (fun y hy => ha y (List.mem_cons_of_mem _ hy)) (by omega) ?_
      rw [List.filter_cons_of_neg (by rw [hc]; decide)] at h
      exact h
theorem lc_all {G : Sto → Prop} {g : DG} {tt : DT} {te : DE} {ρ0 : Ev} {p : Nat} {Q : Sto → Prop} {μ0 : Sto} {xs : List D} (c : D → Bool) (f : D → D) (hG : ∀ acc, G (put μ0 p (.lst acc)))
    (hs : ∀ x, x ∈ xs → ∀ acc (R : QE) (N : Sto → Prop), (c x = true → R (f x) (put μ0 p (.lst acc))) → (c x = false → N (put μ0 p (.lst acc))) →
      g x ρ0 (put μ0 p (.lst acc)) (fun ρ1 μ1 => tt ρ1 μ1 (fun b μ2 => if b = true then te ρ1 μ2 R (fun _ _ => False) else N μ2) (fun _ _ => False)) (fun _ _ => False))
    (hl : xs.length ≤ LINE) (h : Q (put μ0 p (.lst ((xs.filter c).map f)))) : lcW G g tt te ρ0 p Q xs (put μ0 p (.lst [])) :=
  lc_pure xs c f hG hs xs [] (fun _ h => h) (by simpa using hl) (by simpa using h)

/-! ### _law_same -/
mutual
def size : D → Nat
  | .tup xs => sizeL xs + 1
  | _ => 1
def sizeL : List D → Nat
  | [] => 0
  | x :: xs => size x + sizeL xs
end
theorem size_pos : ∀ d : D, 0 < size d := by
  intro d; cases d <;> simp [size]
theorem sizeL_app : ∀ a b : List D, sizeL (a ++ b) = sizeL a + sizeL b
  | [], b => by simp [sizeL]
  | x :: a, b => by simp only [List.cons_append, sizeL, sizeL_app a b]; omega
theorem len_size : ∀ xs : List D, xs.length ≤ sizeL xs
  | [] => Nat.le_refl _
  | x :: xs => by have := len_size xs; have := size_pos x; simp only [sizeL, List.length_cons]; omega
mutual
theorem eqD_refl : ∀ d : D, plain d = true → eqD d d = true
  | .non, _ => by simp [eqD]
  | .bl b, _ => by simp [eqD]
  | .int i, _ => by simp [eqD]
  | .str x, _ => by simp [eqD]
  | .tup xs, h => by
    simp only [plain] at h
    simp only [eqD]
    exact eqL_refl xs h
  | .rol _, h => by simp [plain] at h
  | .loc _, h => by simp [plain] at h
  | .wtup _, h => by simp [plain] at h
theorem eqL_refl : ∀ ds : List D, plainL ds = true → eqL ds ds = true
  | [], _ => by simp [eqL]
  | d :: ds, h => by
    simp only [plainL, Bool.and_eq_true] at h
    simp only [eqL, Bool.and_eq_true]
    exact ⟨eqD_refl d h.1, eqL_refl ds h.2⟩
end
theorem x_neS {x : D} {μ : Sto} {Q : QE} (h : EqOk x) (hl : ∀ a, x ≠ .loc a) (k : Q (.bl false) μ) : uNe x x μ Q := by
  have e : eqD x x = true := eqD_refl x h.1
  have z : eqR x x μ (fun b => Q (.bl (!b)) μ) = (EqOk x ∧ EqOk x ∧ Q (.bl (!(eqD x x))) μ) := by
    cases x <;> first | rfl | exact absurd rfl (hl _)
  show eqR x x μ _
  rw [z, e]
  exact ⟨h, h, k⟩
theorem isiOk_plain {d : D} (h : plain d = true) (μ : Sto) : isiOk d μ := by
  cases d <;> first | exact True.intro | (simp [plain] at h)
def pair2 (d : D) : D := .tup [d, d]
theorem range_map (xs : List D) : (rangeL 0 xs.length).map (fun x => match x with | .int i => pair2 ((atI xs i).getD .non) | _ => .non) = xs.map pair2 := by
  apply List.ext_getElem
  · simp [rangeL]
  · intro n h1 h2
    have hn : n < xs.length := by simpa using h2
    simp [rangeL, atI, ixN, hn]
theorem range_mem {n : Nat} {x : D} (h : x ∈ rangeL 0 n) : ∃ i : Int, x = .int i ∧ 0 ≤ i ∧ i < n := by
  obtain ⟨k, hk, e⟩ := List.mem_map.mp h
  have hk2 : k < n := by simpa using hk
  exact ⟨0 + k, e.symm, by omega, by omega⟩
theorem plainL_mem : ∀ {xs : List D} {d : D}, plainL xs = true → d ∈ xs → plain d = true
  | _ :: xs, d, h, m => by
    simp only [plainL, Bool.and_eq_true] at h
    rcases List.mem_cons.mp m with e | m
    · rw [e]; exact h.1
    · exact plainL_mem h.2 m
theorem depthL_mem : ∀ {xs : List D} {d : D}, d ∈ xs → depth d ≤ depthL xs
  | x :: xs, d, m => by
    simp only [depthL]
    rcases List.mem_cons.mp m with e | m
    · rw [e]; exact Nat.le_max_left _ _
    · exact Nat.le_trans (depthL_mem m) (Nat.le_max_right _ _)
def sameB : DS := sSeq (sAsg (dLst (dCons (dTup (dCons (dVar 0) (dCons (dVar 1) (dNil)))) (dNil))) (gName 2)) (sSeq (sWhile (dTest (d2 uGt (dArgs aLen (dCons (dVar 2) (dNil))) (dC (.int 0)))) (sSeq (sAsg (dMeth0 .list mPop (dVar 2)) (gTup [3, 4])) (sSeq (sIf (dOrT (dTest (d2 uNe (dIsi .ttuple (dVar 3)) (dIsi .ttuple (dVar 4)))) (dTest (d2 uNe (d2 uIs (dVar 3) (dC .non)) (d2 uIs (dVar 4) (dC .non))))) (sRet (dC (.bl false))) (sNext)) (sIf (dTest (dIsi .ttuple (dVar 4))) (sSeq (sIf (dTest (d2 uNe (dArgs aLen (dCons (dVar 3) (dNil))) (dArgs aLen (dCons (dVar 4) (dNil))))) (sRet (dC (.bl false))) (sNext)) (sAsg (d2 uAdd (dVar 2) (dLc (wRng1 (dArgs aLen (dCons (dVar 4) (dNil)))) (gName 5) (tYes) (dTup (dCons (d2 uIx (dVar 3) (dVar 5)) (dCons (d2 uIx (dVar 4) (dVar 5)) (dNil)))) [5])) (gName 2))) (sIf (dOrT (dTest (d2 uNe (dIsi .tstr (dVar 3)) (dIsi .tstr (dVar 4)))) (dTest (d2 uNe (dIsi .tint (dVar 3)) (dIsi .tint (dVar 4))))) (sRet (dC (.bl false))) (sIf (dOrT (dTest (d2 uNe (dIsi .tbool (dVar 3)) (dIsi .tbool (dVar 4)))) (dTest (d2 uNe (dVar 3) (dVar 4)))) (sRet (dC (.bl false))) (sNext))))))) (sRet (dC (.bl true))))

theorem same_loop {Q : QE} {E : QX} {a b : D} {μ0 : Sto} (q : ∀ μ1, Sub μ0 μ1 → Q (.bl true) μ1) : ∀ (n : Nat) (ps : List D) (l : Nat) (μ : Sto) (x y : Option D), Sub μ0 μ → μ0 l = none → lstAt μ l = some (ps.map pair2) → plainL ps = true → depthL ps ≤ 64 → sizeL ps ≤ 1000000 → sizeL ps < n →
    whileW (dTest (d2 uGt (dArgs aLen (dCons (dVar 2) (dNil))) (dC (.int 0)))) (sSeq (sAsg (dMeth0 .list mPop (dVar 2)) (gTup [3, 4])) (sSeq (sIf (dOrT (dTest (d2 uNe (dIsi .ttuple (dVar 3)) (dIsi .ttuple (dVar 4)))) (dTest (d2 uNe (d2 uIs (dVar 3) (dC .non)) (d2 uIs (dVar 4) (dC .non))))) (sRet (dC (.bl false))) (sNext)) (sIf (dTest (dIsi .ttuple (dVar 4))) (sSeq (sIf (dTest (d2 uNe (dArgs aLen (dCons (dVar 3) (dNil))) (dArgs aLen (dCons (dVar 4) (dNil))))) (sRet (dC (.bl false))) (sNext)) (sAsg (d2 uAdd (dVar 2) (dLc (wRng1 (dArgs aLen (dCons (dVar 4) (dNil)))) (gName 5) (tYes) (dTup (dCons (d2 uIx (dVar 3) (dVar 5)) (dCons (d2 uIx (dVar 4) (dVar 5)) (dNil)))) [5])) (gName 2))) (sIf (dOrT (dTest (d2 uNe (dIsi .tstr (dVar 3)) (dIsi .tstr (dVar 4)))) (dTest (d2 uNe (dIsi .tint (dVar 3)) (dIsi .tint (dVar 4))))) (sRet (dC (.bl false))) (sIf (dOrT (dTest (d2 uNe (dIsi .tbool (dVar 3)) (dIsi .tbool (dVar 4)))) (dTest (d2 uNe (dVar 3) (dVar 4)))) (sRet (dC (.bl false))) (sNext))))))
      ⟨sRet (dC (.bl true)) ⟨fun _ μ1 => Q .non μ1, Q, fun _ _ => False, fun _ _ => False, fun x _ μ1 => E x μ1⟩, Q, fun _ _ => False, fun _ _ => False, fun x _ μ1 => E x μ1⟩ n [some a, some b, some (.loc l), x, y, none] μ := by
  intro n
  induction n with
  | zero => intro ps l μ x y _ _ _ _ _ _ h; omega
  | succ n ih =>
    intro ps l μ x y S hl e hp hd hz hn
    refine x_wsucc ?_
    (repeat (first | with_reducible apply x_seq | with_reducible apply x_asg | with_reducible apply x_ret | with_reducible apply x_retN | with_reducible apply x_drop | with_reducible apply x_next | with_reducible apply x_break | with_reducible apply x_cont | with_reducible apply x_if | with_reducible apply x_par | with_reducible apply x_for | with_reducible apply x_c | with_reducible apply x_d1 | with_reducible apply x_d2 | with_reducible apply x_nil | with_reducible apply x_cons | with_reducible apply x_args | with_reducible apply x_call | with_reducible apply x_test | with_reducible apply x_asB | with_reducible apply x_andT | with_reducible apply x_orT | with_reducible apply x_notT | with_reducible apply x_andV | with_reducible apply x_orV | with_reducible apply x_notV | with_reducible apply x_ifE | with_reducible apply x_chain | with_reducible apply x_tup | with_reducible apply x_lst | with_reducible apply x_yes | with_reducible apply x_isi | with_reducible apply x_meth | with_reducible apply x_meth0 | with_reducible apply x_methLT | with_reducible apply x_methLTt | with_reducible apply x_gTup | with_reducible apply x_gWtup | with_reducible apply x_gnn | with_reducible apply x_gSub | with_reducible apply x_add | with_reducible apply x_sub | with_reducible apply x_neg | with_reducible apply x_lt | with_reducible apply x_le | with_reducible apply x_gt | with_reducible apply x_ge | with_reducible apply x_eq | with_reducible apply x_ne | with_reducible apply x_eqB | with_reducible apply x_neB | with_reducible apply x_is | with_reducible apply x_isNot | with_reducible apply x_lenT | with_reducible apply x_int | with_reducible apply x_tupT | with_reducible apply x_wSeq | with_reducible apply x_wT | with_reducible apply x_wR | with_reducible apply x_wRng1 | with_reducible apply x_wEnum | with_reducible apply x_dFld | with_reducible apply x_cut01 | with_reducible apply x_cut10 | with_reducible apply x_asI | with_reducible apply x_cutT | with_reducible apply x_iteT | with_reducible apply x_iteF | with_reducible apply x_max2 | with_reducible apply x_min2 | with_reducible apply x_bits | with_reducible refine x_var (by with_unfolding_all rfl) ?_ | with_reducible refine x_gName (by dsimp only [setE] <;> with_unfolding_all rfl) ?_ | with_reducible refine x_gnc (by dsimp only [setE] <;> with_unfolding_all rfl) ?_ | with_reducible refine x_len0 (by with_unfolding_all rfl) ?_ | with_reducible refine x_isiR (by with_unfolding_all exact True.intro) ?_ | with_reducible refine x_ixL (by assumption) (by with_unfolding_all rfl) ?_ | with_reducible refine x_ixT (by with_unfolding_all rfl) ?_ | with_reducible refine x_lenL (by assumption) ?_ | with_reducible refine x_gSubR (by assumption) (by with_unfolding_all rfl) ?_ | with_reducible refine x_lc (by dsimp only [wipeE, setE] <;> with_unfolding_all rfl) ?_))
    refine x_ite (fun h0 => ?_) (fun h0 => ?_)
    · have hne : ps ≠ [] := by intro z; subst z; simp at h0
      obtain ⟨rs, d, rfl⟩ := list_last ps hne
      have hpd : plain d = true := plainL_mem hp (by simp)
      have hpr : plainL rs = true := by
        have z : ∀ (a : List D), plainL (a ++ [d]) = true → plainL a = true := fun a => by
          induction a with
          | nil => intro _; simp [plainL]
          | cons x a ih =>
            intro h
            simp only [List.cons_append, plainL, Bool.and_eq_true] at h ⊢
            exact ⟨h.1, ih h.2⟩
        exact z rs hp
      have hdd : depth d ≤ 64 := Nat.le_trans (depthL_mem (xs := rs ++ [d]) (by simp)) hd
      have hdr : depthL rs ≤ 64 := by
        have z : ∀ (a : List D), depthL a ≤ depthL (a ++ [d]) := fun a => by
          induction a with
          | nil => simp [depthL]
          | cons x a ih => simp only [List.cons_append, depthL]; omega
        exact Nat.le_trans (z rs) hd
      have hsz : sizeL (rs ++ [d]) = sizeL rs + size d := by rw [sizeL_app]; simp [sizeL]
      have hpos := size_pos d
      have ok : EqOk d := ⟨hpd, hdd⟩
      have nl : ∀ a, d ≠ .loc a := fun a z => by subst z; simp [plain] at hpd
      have nw : ∀ a, d ≠ .wtup a := fun a z => by subst z; simp [plain] at hpd
      (repeat (first | with_reducible apply x_seq | with_reducible apply x_asg | with_reducible apply x_ret | with_reducible apply x_retN | with_reducible apply x_drop | with_reducible apply x_next | with_reducible apply x_break | with_reducible apply x_cont | with_reducible apply x_if | with_reducible apply x_par | with_reducible apply x_for | with_reducible apply x_c | with_reducible apply x_d1 | with_reducible apply x_d2 | with_reducible apply x_nil | with_reducible apply x_cons | with_reducible apply x_args | with_reducible apply x_call | with_reducible apply x_test | with_reducible apply x_asB | with_reducible apply x_andT | with_reducible apply x_orT | with_reducible apply x_notT | with_reducible apply x_andV | with_reducible apply x_orV | with_reducible apply x_notV | with_reducible apply x_ifE | with_reducible apply x_chain | with_reducible apply x_tup | with_reducible apply x_lst | with_reducible apply x_yes | with_reducible apply x_isi | with_reducible apply x_meth | with_reducible apply x_meth0 | with_reducible apply x_methLT | with_reducible apply x_methLTt | with_reducible apply x_gTup | with_reducible apply x_gWtup | with_reducible apply x_gnn | with_reducible apply x_gSub | with_reducible apply x_add | with_reducible apply x_sub | with_reducible apply x_neg | with_reducible apply x_lt | with_reducible apply x_le | with_reducible apply x_gt | with_reducible apply x_ge | with_reducible apply x_eq | with_reducible apply x_ne | with_reducible apply x_eqB | with_reducible apply x_neB | with_reducible apply x_is | with_reducible apply x_isNot | with_reducible apply x_lenT | with_reducible apply x_int | with_reducible apply x_tupT | with_reducible apply x_wSeq | with_reducible apply x_wT | with_reducible apply x_wR | with_reducible apply x_wRng1 | with_reducible apply x_wEnum | with_reducible apply x_dFld | with_reducible apply x_cut01 | with_reducible apply x_cut10 | with_reducible apply x_asI | with_reducible apply x_cutT | with_reducible apply x_iteT | with_reducible apply x_iteF | with_reducible apply x_max2 | with_reducible apply x_min2 | with_reducible apply x_bits | with_reducible refine x_var (by with_unfolding_all rfl) ?_ | with_reducible refine x_gName (by dsimp only [setE] <;> with_unfolding_all rfl) ?_ | with_reducible refine x_gnc (by dsimp only [setE] <;> with_unfolding_all rfl) ?_ | with_reducible refine x_len0 (by with_unfolding_all rfl) ?_ | with_reducible refine x_isiR (by with_unfolding_all exact True.intro) ?_ | with_reducible refine x_ixL (by assumption) (by with_unfolding_all rfl) ?_ | with_reducible refine x_ixT (by with_unfolding_all rfl) ?_ | with_reducible refine x_lenL (by assumption) ?_ | with_reducible refine x_gSubR (by assumption) (by with_unfolding_all rfl) ?_ | with_reducible refine x_lc (by dsimp only [wipeE, setE] <;> with_unfolding_all rfl) ?_))
      refine x_meth0L e ?_
      refine x_pop (y := pair2 d) (xs := rs.map pair2) (by rw [e, List.map_append]; rfl) ?_
      have S' : Sub μ0 (put μ l (.lst (rs.map pair2))) := S.loc hl
      unfold pair2
      (repeat (first | with_reducible apply x_seq | with_reducible apply x_asg | with_reducible apply x_ret | with_reducible apply x_retN | with_reducible apply x_drop | with_reducible apply x_next | with_reducible apply x_break | with_reducible apply x_cont | with_reducible apply x_if | with_reducible apply x_par | with_reducible apply x_for | with_reducible apply x_c | with_reducible apply x_d1 | with_reducible apply x_d2 | with_reducible apply x_nil | with_reducible apply x_cons | with_reducible apply x_args | with_reducible apply x_call | with_reducible apply x_test | with_reducible apply x_asB | with_reducible apply x_andT | with_reducible apply x_orT | with_reducible apply x_notT | with_reducible apply x_andV | with_reducible apply x_orV | with_reducible apply x_notV | with_reducible apply x_ifE | with_reducible apply x_chain | with_reducible apply x_tup | with_reducible apply x_lst | with_reducible apply x_yes | with_reducible apply x_isi | with_reducible apply x_meth | with_reducible apply x_meth0 | with_reducible apply x_methLT | with_reducible apply x_methLTt | with_reducible apply x_gTup | with_reducible apply x_gWtup | with_reducible apply x_gnn | with_reducible apply x_gSub | with_reducible apply x_add | with_reducible apply x_sub | with_reducible apply x_neg | with_reducible apply x_lt | with_reducible apply x_le | with_reducible apply x_gt | with_reducible apply x_ge | with_reducible apply x_eq | with_reducible apply x_ne | with_reducible apply x_eqB | with_reducible apply x_neB | with_reducible apply x_is | with_reducible apply x_isNot | with_reducible apply x_lenT | with_reducible apply x_int | with_reducible apply x_tupT | with_reducible apply x_wSeq | with_reducible apply x_wT | with_reducible apply x_wR | with_reducible apply x_wRng1 | with_reducible apply x_wEnum | with_reducible apply x_dFld | with_reducible apply x_cut01 | with_reducible apply x_cut10 | with_reducible apply x_asI | with_reducible apply x_cutT | with_reducible apply x_iteT | with_reducible apply x_iteF | with_reducible apply x_max2 | with_reducible apply x_min2 | with_reducible apply x_bits | with_reducible refine x_var (by with_unfolding_all rfl) ?_ | with_reducible refine x_gName (by dsimp only [setE] <;> with_unfolding_all rfl) ?_ | with_reducible refine x_gnc (by dsimp only [setE] <;> with_unfolding_all rfl) ?_ | with_reducible refine x_len0 (by with_unfolding_all rfl) ?_ | with_reducible refine x_isiR (by with_unfolding_all exact True.intro) ?_ | with_reducible refine x_ixL (by assumption) (by with_unfolding_all rfl) ?_ | with_reducible refine x_ixT (by with_unfolding_all rfl) ?_ | with_reducible refine x_lenL (by assumption) ?_ | with_reducible refine x_gSubR (by assumption) (by with_unfolding_all rfl) ?_ | with_reducible refine x_lc (by dsimp only [wipeE, setE] <;> with_unfolding_all rfl) ?_))
      try refine x_isiR (isiOk_plain hpd _) ?_
      (repeat (first | with_reducible apply x_seq | with_reducible apply x_asg | with_reducible apply x_ret | with_reducible apply x_retN | with_reducible apply x_drop | with_reducible apply x_next | with_reducible apply x_break | with_reducible apply x_cont | with_reducible apply x_if | with_reducible apply x_par | with_reducible apply x_for | with_reducible apply x_c | with_reducible apply x_d1 | with_reducible apply x_d2 | with_reducible apply x_nil | with_reducible apply x_cons | with_reducible apply x_args | with_reducible apply x_call | with_reducible apply x_test | with_reducible apply x_asB | with_reducible apply x_andT | with_reducible apply x_orT | with_reducible apply x_notT | with_reducible apply x_andV | with_reducible apply x_orV | with_reducible apply x_notV | with_reducible apply x_ifE | with_reducible apply x_chain | with_reducible apply x_tup | with_reducible apply x_lst | with_reducible apply x_yes | with_reducible apply x_isi | with_reducible apply x_meth | with_reducible apply x_meth0 | with_reducible apply x_methLT | with_reducible apply x_methLTt | with_reducible apply x_gTup | with_reducible apply x_gWtup | with_reducible apply x_gnn | with_reducible apply x_gSub | with_reducible apply x_add | with_reducible apply x_sub | with_reducible apply x_neg | with_reducible apply x_lt | with_reducible apply x_le | with_reducible apply x_gt | with_reducible apply x_ge | with_reducible apply x_eq | with_reducible apply x_ne | with_reducible apply x_eqB | with_reducible apply x_neB | with_reducible apply x_is | with_reducible apply x_isNot | with_reducible apply x_lenT | with_reducible apply x_int | with_reducible apply x_tupT | with_reducible apply x_wSeq | with_reducible apply x_wT | with_reducible apply x_wR | with_reducible apply x_wRng1 | with_reducible apply x_wEnum | with_reducible apply x_dFld | with_reducible apply x_cut01 | with_reducible apply x_cut10 | with_reducible apply x_asI | with_reducible apply x_cutT | with_reducible apply x_iteT | with_reducible apply x_iteF | with_reducible apply x_max2 | with_reducible apply x_min2 | with_reducible apply x_bits | with_reducible refine x_var (by with_unfolding_all rfl) ?_ | with_reducible refine x_gName (by dsimp only [setE] <;> with_unfolding_all rfl) ?_ | with_reducible refine x_gnc (by dsimp only [setE] <;> with_unfolding_all rfl) ?_ | with_reducible refine x_len0 (by with_unfolding_all rfl) ?_ | with_reducible refine x_isiR (by with_unfolding_all exact True.intro) ?_ | with_reducible refine x_ixL (by assumption) (by with_unfolding_all rfl) ?_ | with_reducible refine x_ixT (by with_unfolding_all rfl) ?_ | with_reducible refine x_lenL (by assumption) ?_ | with_reducible refine x_gSubR (by assumption) (by with_unfolding_all rfl) ?_ | with_reducible refine x_lc (by dsimp only [wipeE, setE] <;> with_unfolding_all rfl) ?_))
      try refine x_isiR (isiOk_plain hpd _) ?_
      (repeat (first | with_reducible apply x_seq | with_reducible apply x_asg | with_reducible apply x_ret | with_reducible apply x_retN | with_reducible apply x_drop | with_reducible apply x_next | with_reducible apply x_break | with_reducible apply x_cont | with_reducible apply x_if | with_reducible apply x_par | with_reducible apply x_for | with_reducible apply x_c | with_reducible apply x_d1 | with_reducible apply x_d2 | with_reducible apply x_nil | with_reducible apply x_cons | with_reducible apply x_args | with_reducible apply x_call | with_reducible apply x_test | with_reducible apply x_asB | with_reducible apply x_andT | with_reducible apply x_orT | with_reducible apply x_notT | with_reducible apply x_andV | with_reducible apply x_orV | with_reducible apply x_notV | with_reducible apply x_ifE | with_reducible apply x_chain | with_reducible apply x_tup | with_reducible apply x_lst | with_reducible apply x_yes | with_reducible apply x_isi | with_reducible apply x_meth | with_reducible apply x_meth0 | with_reducible apply x_methLT | with_reducible apply x_methLTt | with_reducible apply x_gTup | with_reducible apply x_gWtup | with_reducible apply x_gnn | with_reducible apply x_gSub | with_reducible apply x_add | with_reducible apply x_sub | with_reducible apply x_neg | with_reducible apply x_lt | with_reducible apply x_le | with_reducible apply x_gt | with_reducible apply x_ge | with_reducible apply x_eq | with_reducible apply x_ne | with_reducible apply x_eqB | with_reducible apply x_neB | with_reducible apply x_is | with_reducible apply x_isNot | with_reducible apply x_lenT | with_reducible apply x_int | with_reducible apply x_tupT | with_reducible apply x_wSeq | with_reducible apply x_wT | with_reducible apply x_wR | with_reducible apply x_wRng1 | with_reducible apply x_wEnum | with_reducible apply x_dFld | with_reducible apply x_cut01 | with_reducible apply x_cut10 | with_reducible apply x_asI | with_reducible apply x_cutT | with_reducible apply x_iteT | with_reducible apply x_iteF | with_reducible apply x_max2 | with_reducible apply x_min2 | with_reducible apply x_bits | with_reducible refine x_var (by with_unfolding_all rfl) ?_ | with_reducible refine x_gName (by dsimp only [setE] <;> with_unfolding_all rfl) ?_ | with_reducible refine x_gnc (by dsimp only [setE] <;> with_unfolding_all rfl) ?_ | with_reducible refine x_len0 (by with_unfolding_all rfl) ?_ | with_reducible refine x_isiR (by with_unfolding_all exact True.intro) ?_ | with_reducible refine x_ixL (by assumption) (by with_unfolding_all rfl) ?_ | with_reducible refine x_ixT (by with_unfolding_all rfl) ?_ | with_reducible refine x_lenL (by assumption) ?_ | with_reducible refine x_gSubR (by assumption) (by with_unfolding_all rfl) ?_ | with_reducible refine x_lc (by dsimp only [wipeE, setE] <;> with_unfolding_all rfl) ?_))
      have eb : ∀ b : Bool, (!(b == b)) = false := fun b => by cases b <;> rfl
      rw [eb]
      (repeat (first | with_reducible apply x_seq | with_reducible apply x_asg | with_reducible apply x_ret | with_reducible apply x_retN | with_reducible apply x_drop | with_reducible apply x_next | with_reducible apply x_break | with_reducible apply x_cont | with_reducible apply x_if | with_reducible apply x_par | with_reducible apply x_for | with_reducible apply x_c | with_reducible apply x_d1 | with_reducible apply x_d2 | with_reducible apply x_nil | with_reducible apply x_cons | with_reducible apply x_args | with_reducible apply x_call | with_reducible apply x_test | with_reducible apply x_asB | with_reducible apply x_andT | with_reducible apply x_orT | with_reducible apply x_notT | with_reducible apply x_andV | with_reducible apply x_orV | with_reducible apply x_notV | with_reducible apply x_ifE | with_reducible apply x_chain | with_reducible apply x_tup | with_reducible apply x_lst | with_reducible apply x_yes | with_reducible apply x_isi | with_reducible apply x_meth | with_reducible apply x_meth0 | with_reducible apply x_methLT | with_reducible apply x_methLTt | with_reducible apply x_gTup | with_reducible apply x_gWtup | with_reducible apply x_gnn | with_reducible apply x_gSub | with_reducible apply x_add | with_reducible apply x_sub | with_reducible apply x_neg | with_reducible apply x_lt | with_reducible apply x_le | with_reducible apply x_gt | with_reducible apply x_ge | with_reducible apply x_eq | with_reducible apply x_ne | with_reducible apply x_eqB | with_reducible apply x_neB | with_reducible apply x_is | with_reducible apply x_isNot | with_reducible apply x_lenT | with_reducible apply x_int | with_reducible apply x_tupT | with_reducible apply x_wSeq | with_reducible apply x_wT | with_reducible apply x_wR | with_reducible apply x_wRng1 | with_reducible apply x_wEnum | with_reducible apply x_dFld | with_reducible apply x_cut01 | with_reducible apply x_cut10 | with_reducible apply x_asI | with_reducible apply x_cutT | with_reducible apply x_iteT | with_reducible apply x_iteF | with_reducible apply x_max2 | with_reducible apply x_min2 | with_reducible apply x_bits | with_reducible refine x_var (by with_unfolding_all rfl) ?_ | with_reducible refine x_gName (by dsimp only [setE] <;> with_unfolding_all rfl) ?_ | with_reducible refine x_gnc (by dsimp only [setE] <;> with_unfolding_all rfl) ?_ | with_reducible refine x_len0 (by with_unfolding_all rfl) ?_ | with_reducible refine x_isiR (by with_unfolding_all exact True.intro) ?_ | with_reducible refine x_ixL (by assumption) (by with_unfolding_all rfl) ?_ | with_reducible refine x_ixT (by with_unfolding_all rfl) ?_ | with_reducible refine x_lenL (by assumption) ?_ | with_reducible refine x_gSubR (by assumption) (by with_unfolding_all rfl) ?_ | with_reducible refine x_lc (by dsimp only [wipeE, setE] <;> with_unfolding_all rfl) ?_))
      rw [eb]
      (repeat (first | with_reducible apply x_seq | with_reducible apply x_asg | with_reducible apply x_ret | with_reducible apply x_retN | with_reducible apply x_drop | with_reducible apply x_next | with_reducible apply x_break | with_reducible apply x_cont | with_reducible apply x_if | with_reducible apply x_par | with_reducible apply x_for | with_reducible apply x_c | with_reducible apply x_d1 | with_reducible apply x_d2 | with_reducible apply x_nil | with_reducible apply x_cons | with_reducible apply x_args | with_reducible apply x_call | with_reducible apply x_test | with_reducible apply x_asB | with_reducible apply x_andT | with_reducible apply x_orT | with_reducible apply x_notT | with_reducible apply x_andV | with_reducible apply x_orV | with_reducible apply x_notV | with_reducible apply x_ifE | with_reducible apply x_chain | with_reducible apply x_tup | with_reducible apply x_lst | with_reducible apply x_yes | with_reducible apply x_isi | with_reducible apply x_meth | with_reducible apply x_meth0 | with_reducible apply x_methLT | with_reducible apply x_methLTt | with_reducible apply x_gTup | with_reducible apply x_gWtup | with_reducible apply x_gnn | with_reducible apply x_gSub | with_reducible apply x_add | with_reducible apply x_sub | with_reducible apply x_neg | with_reducible apply x_lt | with_reducible apply x_le | with_reducible apply x_gt | with_reducible apply x_ge | with_reducible apply x_eq | with_reducible apply x_ne | with_reducible apply x_eqB | with_reducible apply x_neB | with_reducible apply x_is | with_reducible apply x_isNot | with_reducible apply x_lenT | with_reducible apply x_int | with_reducible apply x_tupT | with_reducible apply x_wSeq | with_reducible apply x_wT | with_reducible apply x_wR | with_reducible apply x_wRng1 | with_reducible apply x_wEnum | with_reducible apply x_dFld | with_reducible apply x_cut01 | with_reducible apply x_cut10 | with_reducible apply x_asI | with_reducible apply x_cutT | with_reducible apply x_iteT | with_reducible apply x_iteF | with_reducible apply x_max2 | with_reducible apply x_min2 | with_reducible apply x_bits | with_reducible refine x_var (by with_unfolding_all rfl) ?_ | with_reducible refine x_gName (by dsimp only [setE] <;> with_unfolding_all rfl) ?_ | with_reducible refine x_gnc (by dsimp only [setE] <;> with_unfolding_all rfl) ?_ | with_reducible refine x_len0 (by with_unfolding_all rfl) ?_ | with_reducible refine x_isiR (by with_unfolding_all exact True.intro) ?_ | with_reducible refine x_ixL (by assumption) (by with_unfolding_all rfl) ?_ | with_reducible refine x_ixT (by with_unfolding_all rfl) ?_ | with_reducible refine x_lenL (by assumption) ?_ | with_reducible refine x_gSubR (by assumption) (by with_unfolding_all rfl) ?_ | with_reducible refine x_lc (by dsimp only [wipeE, setE] <;> with_unfolding_all rfl) ?_))
      try refine x_isiR (isiOk_plain hpd _) ?_
      (repeat (first | with_reducible apply x_seq | with_reducible apply x_asg | with_reducible apply x_ret | with_reducible apply x_retN | with_reducible apply x_drop | with_reducible apply x_next | with_reducible apply x_break | with_reducible apply x_cont | with_reducible apply x_if | with_reducible apply x_par | with_reducible apply x_for | with_reducible apply x_c | with_reducible apply x_d1 | with_reducible apply x_d2 | with_reducible apply x_nil | with_reducible apply x_cons | with_reducible apply x_args | with_reducible apply x_call | with_reducible apply x_test | with_reducible apply x_asB | with_reducible apply x_andT | with_reducible apply x_orT | with_reducible apply x_notT | with_reducible apply x_andV | with_reducible apply x_orV | with_reducible apply x_notV | with_reducible apply x_ifE | with_reducible apply x_chain | with_reducible apply x_tup | with_reducible apply x_lst | with_reducible apply x_yes | with_reducible apply x_isi | with_reducible apply x_meth | with_reducible apply x_meth0 | with_reducible apply x_methLT | with_reducible apply x_methLTt | with_reducible apply x_gTup | with_reducible apply x_gWtup | with_reducible apply x_gnn | with_reducible apply x_gSub | with_reducible apply x_add | with_reducible apply x_sub | with_reducible apply x_neg | with_reducible apply x_lt | with_reducible apply x_le | with_reducible apply x_gt | with_reducible apply x_ge | with_reducible apply x_eq | with_reducible apply x_ne | with_reducible apply x_eqB | with_reducible apply x_neB | with_reducible apply x_is | with_reducible apply x_isNot | with_reducible apply x_lenT | with_reducible apply x_int | with_reducible apply x_tupT | with_reducible apply x_wSeq | with_reducible apply x_wT | with_reducible apply x_wR | with_reducible apply x_wRng1 | with_reducible apply x_wEnum | with_reducible apply x_dFld | with_reducible apply x_cut01 | with_reducible apply x_cut10 | with_reducible apply x_asI | with_reducible apply x_cutT | with_reducible apply x_iteT | with_reducible apply x_iteF | with_reducible apply x_max2 | with_reducible apply x_min2 | with_reducible apply x_bits | with_reducible refine x_var (by with_unfolding_all rfl) ?_ | with_reducible refine x_gName (by dsimp only [setE] <;> with_unfolding_all rfl) ?_ | with_reducible refine x_gnc (by dsimp only [setE] <;> with_unfolding_all rfl) ?_ | with_reducible refine x_len0 (by with_unfolding_all rfl) ?_ | with_reducible refine x_isiR (by with_unfolding_all exact True.intro) ?_ | with_reducible refine x_ixL (by assumption) (by with_unfolding_all rfl) ?_ | with_reducible refine x_ixT (by with_unfolding_all rfl) ?_ | with_reducible refine x_lenL (by assumption) ?_ | with_reducible refine x_gSubR (by assumption) (by with_unfolding_all rfl) ?_ | with_reducible refine x_lc (by dsimp only [wipeE, setE] <;> with_unfolding_all rfl) ?_))
      cases d with
      | tup xs =>
        refine x_iteT ?_
        (repeat (first | with_reducible apply x_seq | with_reducible apply x_asg | with_reducible apply x_ret | with_reducible apply x_retN | with_reducible apply x_drop | with_reducible apply x_next | with_reducible apply x_break | with_reducible apply x_cont | with_reducible apply x_if | with_reducible apply x_par | with_reducible apply x_for | with_reducible apply x_c | with_reducible apply x_d1 | with_reducible apply x_d2 | with_reducible apply x_nil | with_reducible apply x_cons | with_reducible apply x_args | with_reducible apply x_call | with_reducible apply x_test | with_reducible apply x_asB | with_reducible apply x_andT | with_reducible apply x_orT | with_reducible apply x_notT | with_reducible apply x_andV | with_reducible apply x_orV | with_reducible apply x_notV | with_reducible apply x_ifE | with_reducible apply x_chain | with_reducible apply x_tup | with_reducible apply x_lst | with_reducible apply x_yes | with_reducible apply x_isi | with_reducible apply x_meth | with_reducible apply x_meth0 | with_reducible apply x_methLT | with_reducible apply x_methLTt | with_reducible apply x_gTup | with_reducible apply x_gWtup | with_reducible apply x_gnn | with_reducible apply x_gSub | with_reducible apply x_add | with_reducible apply x_sub | with_reducible apply x_neg | with_reducible apply x_lt | with_reducible apply x_le | with_reducible apply x_gt | with_reducible apply x_ge | with_reducible apply x_eq | with_reducible apply x_ne | with_reducible apply x_eqB | with_reducible apply x_neB | with_reducible apply x_is | with_reducible apply x_isNot | with_reducible apply x_lenT | with_reducible apply x_int | with_reducible apply x_tupT | with_reducible apply x_wSeq | with_reducible apply x_wT | with_reducible apply x_wR | with_reducible apply x_wRng1 | with_reducible apply x_wEnum | with_reducible apply x_dFld | with_reducible apply x_cut01 | with_reducible apply x_cut10 | with_reducible apply x_asI | with_reducible apply x_cutT | with_reducible apply x_iteT | with_reducible apply x_iteF | with_reducible apply x_max2 | with_reducible apply x_min2 | with_reducible apply x_bits | with_reducible refine x_var (by with_unfolding_all rfl) ?_ | with_reducible refine x_gName (by dsimp only [setE] <;> with_unfolding_all rfl) ?_ | with_reducible refine x_gnc (by dsimp only [setE] <;> with_unfolding_all rfl) ?_ | with_reducible refine x_len0 (by with_unfolding_all rfl) ?_ | with_reducible refine x_isiR (by with_unfolding_all exact True.intro) ?_ | with_reducible refine x_ixL (by assumption) (by with_unfolding_all rfl) ?_ | with_reducible refine x_ixT (by with_unfolding_all rfl) ?_ | with_reducible refine x_lenL (by assumption) ?_ | with_reducible refine x_gSubR (by assumption) (by with_unfolding_all rfl) ?_ | with_reducible refine x_lc (by dsimp only [wipeE, setE] <;> with_unfolding_all rfl) ?_))
        have en : decide ((xs.length : Int) ≠ xs.length) = false := by simp
        rw [en]
        (repeat (first | with_reducible apply x_seq | with_reducible apply x_asg | with_reducible apply x_ret | with_reducible apply x_retN | with_reducible apply x_drop | with_reducible apply x_next | with_reducible apply x_break | with_reducible apply x_cont | with_reducible apply x_if | with_reducible apply x_par | with_reducible apply x_for | with_reducible apply x_c | with_reducible apply x_d1 | with_reducible apply x_d2 | with_reducible apply x_nil | with_reducible apply x_cons | with_reducible apply x_args | with_reducible apply x_call | with_reducible apply x_test | with_reducible apply x_asB | with_reducible apply x_andT | with_reducible apply x_orT | with_reducible apply x_notT | with_reducible apply x_andV | with_reducible apply x_orV | with_reducible apply x_notV | with_reducible apply x_ifE | with_reducible apply x_chain | with_reducible apply x_tup | with_reducible apply x_lst | with_reducible apply x_yes | with_reducible apply x_isi | with_reducible apply x_meth | with_reducible apply x_meth0 | with_reducible apply x_methLT | with_reducible apply x_methLTt | with_reducible apply x_gTup | with_reducible apply x_gWtup | with_reducible apply x_gnn | with_reducible apply x_gSub | with_reducible apply x_add | with_reducible apply x_sub | with_reducible apply x_neg | with_reducible apply x_lt | with_reducible apply x_le | with_reducible apply x_gt | with_reducible apply x_ge | with_reducible apply x_eq | with_reducible apply x_ne | with_reducible apply x_eqB | with_reducible apply x_neB | with_reducible apply x_is | with_reducible apply x_isNot | with_reducible apply x_lenT | with_reducible apply x_int | with_reducible apply x_tupT | with_reducible apply x_wSeq | with_reducible apply x_wT | with_reducible apply x_wR | with_reducible apply x_wRng1 | with_reducible apply x_wEnum | with_reducible apply x_dFld | with_reducible apply x_cut01 | with_reducible apply x_cut10 | with_reducible apply x_asI | with_reducible apply x_cutT | with_reducible apply x_iteT | with_reducible apply x_iteF | with_reducible apply x_max2 | with_reducible apply x_min2 | with_reducible apply x_bits | with_reducible refine x_var (by with_unfolding_all rfl) ?_ | with_reducible refine x_gName (by dsimp only [setE] <;> with_unfolding_all rfl) ?_ | with_reducible refine x_gnc (by dsimp only [setE] <;> with_unfolding_all rfl) ?_ | with_reducible refine x_len0 (by with_unfolding_all rfl) ?_ | with_reducible refine x_isiR (by with_unfolding_all exact True.intro) ?_ | with_reducible refine x_ixL (by assumption) (by with_unfolding_all rfl) ?_ | with_reducible refine x_ixT (by with_unfolding_all rfl) ?_ | with_reducible refine x_lenL (by assumption) ?_ | with_reducible refine x_gSubR (by assumption) (by with_unfolding_all rfl) ?_ | with_reducible refine x_lc (by dsimp only [wipeE, setE] <;> with_unfolding_all rfl) ?_))
        have hxs : xs.length ≤ sizeL xs := len_size xs
        have hrs : rs.length ≤ sizeL rs := len_size rs
        simp only [size] at hsz hpos
        refine x_rng (by omega) ?_
        intro r hr
        have rl : r ≠ l := by
          intro z; subst z
          rw [put_same] at hr; cases hr
        refine lc_all (fun _ => true) (fun x => match x with | .int i => pair2 ((atI xs i).getD .non) | _ => .non) (fun _ => trivial) (fun z hz acc R N h1 _ => ?_) (by simp [rangeL, LINE]; omega) ?_
        · obtain ⟨i, rfl, i0, i1⟩ := range_mem hz
          obtain ⟨u, eu, _⟩ := at_in (xs := xs) i0 (by simpa using i1)
          (repeat (first | with_reducible apply x_seq | with_reducible apply x_asg | with_reducible apply x_ret | with_reducible apply x_retN | with_reducible apply x_drop | with_reducible apply x_next | with_reducible apply x_break | with_reducible apply x_cont | with_reducible apply x_if | with_reducible apply x_par | with_reducible apply x_for | with_reducible apply x_c | with_reducible apply x_d1 | with_reducible apply x_d2 | with_reducible apply x_nil | with_reducible apply x_cons | with_reducible apply x_args | with_reducible apply x_call | with_reducible apply x_test | with_reducible apply x_asB | with_reducible apply x_andT | with_reducible apply x_orT | with_reducible apply x_notT | with_reducible apply x_andV | with_reducible apply x_orV | with_reducible apply x_notV | with_reducible apply x_ifE | with_reducible apply x_chain | with_reducible apply x_tup | with_reducible apply x_lst | with_reducible apply x_yes | with_reducible apply x_isi | with_reducible apply x_meth | with_reducible apply x_meth0 | with_reducible apply x_methLT | with_reducible apply x_methLTt | with_reducible apply x_gTup | with_reducible apply x_gWtup | with_reducible apply x_gnn | with_reducible apply x_gSub | with_reducible apply x_add | with_reducible apply x_sub | with_reducible apply x_neg | with_reducible apply x_lt | with_reducible apply x_le | with_reducible apply x_gt | with_reducible apply x_ge | with_reducible apply x_eq | with_reducible apply x_ne | with_reducible apply x_eqB | with_reducible apply x_neB | with_reducible apply x_is | with_reducible apply x_isNot | with_reducible apply x_lenT | with_reducible apply x_int | with_reducible apply x_tupT | with_reducible apply x_wSeq | with_reducible apply x_wT | with_reducible apply x_wR | with_reducible apply x_wRng1 | with_reducible apply x_wEnum | with_reducible apply x_dFld | with_reducible apply x_cut01 | with_reducible apply x_cut10 | with_reducible apply x_asI | with_reducible apply x_cutT | with_reducible apply x_iteT | with_reducible apply x_iteF | with_reducible apply x_max2 | with_reducible apply x_min2 | with_reducible apply x_bits | with_reducible refine x_var (by with_unfolding_all rfl) ?_ | with_reducible refine x_gName (by dsimp only [setE] <;> with_unfolding_all rfl) ?_ | with_reducible refine x_gnc (by dsimp only [setE] <;> with_unfolding_all rfl) ?_ | with_reducible refine x_len0 (by with_unfolding_all rfl) ?_ | with_reducible refine x_isiR (by with_unfolding_all exact True.intro) ?_ | with_reducible refine x_ixL (by assumption) (by with_unfolding_all rfl) ?_ | with_reducible refine x_ixT (by with_unfolding_all rfl) ?_ | with_reducible refine x_lenL (by assumption) ?_ | with_reducible refine x_gSubR (by assumption) (by with_unfolding_all rfl) ?_ | with_reducible refine x_lc (by dsimp only [wipeE, setE] <;> with_unfolding_all rfl) ?_))
          refine x_ixT eu ?_
          (repeat (first | with_reducible apply x_seq | with_reducible apply x_asg | with_reducible apply x_ret | with_reducible apply x_retN | with_reducible apply x_drop | with_reducible apply x_next | with_reducible apply x_break | with_reducible apply x_cont | with_reducible apply x_if | with_reducible apply x_par | with_reducible apply x_for | with_reducible apply x_c | with_reducible apply x_d1 | with_reducible apply x_d2 | with_reducible apply x_nil | with_reducible apply x_cons | with_reducible apply x_args | with_reducible apply x_call | with_reducible apply x_test | with_reducible apply x_asB | with_reducible apply x_andT | with_reducible apply x_orT | with_reducible apply x_notT | with_reducible apply x_andV | with_reducible apply x_orV | with_reducible apply x_notV | with_reducible apply x_ifE | with_reducible apply x_chain | with_reducible apply x_tup | with_reducible apply x_lst | with_reducible apply x_yes | with_reducible apply x_isi | with_reducible apply x_meth | with_reducible apply x_meth0 | with_reducible apply x_methLT | with_reducible apply x_methLTt | with_reducible apply x_gTup | with_reducible apply x_gWtup | with_reducible apply x_gnn | with_reducible apply x_gSub | with_reducible apply x_add | with_reducible apply x_sub | with_reducible apply x_neg | with_reducible apply x_lt | with_reducible apply x_le | with_reducible apply x_gt | with_reducible apply x_ge | with_reducible apply x_eq | with_reducible apply x_ne | with_reducible apply x_eqB | with_reducible apply x_neB | with_reducible apply x_is | with_reducible apply x_isNot | with_reducible apply x_lenT | with_reducible apply x_int | with_reducible apply x_tupT | with_reducible apply x_wSeq | with_reducible apply x_wT | with_reducible apply x_wR | with_reducible apply x_wRng1 | with_reducible apply x_wEnum | with_reducible apply x_dFld | with_reducible apply x_cut01 | with_reducible apply x_cut10 | with_reducible apply x_asI | with_reducible apply x_cutT | with_reducible apply x_iteT | with_reducible apply x_iteF | with_reducible apply x_max2 | with_reducible apply x_min2 | with_reducible apply x_bits | with_reducible refine x_var (by with_unfolding_all rfl) ?_ | with_reducible refine x_gName (by dsimp only [setE] <;> with_unfolding_all rfl) ?_ | with_reducible refine x_gnc (by dsimp only [setE] <;> with_unfolding_all rfl) ?_ | with_reducible refine x_len0 (by with_unfolding_all rfl) ?_ | with_reducible refine x_isiR (by with_unfolding_all exact True.intro) ?_ | with_reducible refine x_ixL (by assumption) (by with_unfolding_all rfl) ?_ | with_reducible refine x_ixT (by with_unfolding_all rfl) ?_ | with_reducible refine x_lenL (by assumption) ?_ | with_reducible refine x_gSubR (by assumption) (by with_unfolding_all rfl) ?_ | with_reducible refine x_lc (by dsimp only [wipeE, setE] <;> with_unfolding_all rfl) ?_))
          refine x_ixT eu ?_
          (repeat (first | with_reducible apply x_seq | with_reducible apply x_asg | with_reducible apply x_ret | with_reducible apply x_retN | with_reducible apply x_drop | with_reducible apply x_next | with_reducible apply x_break | with_reducible apply x_cont | with_reducible apply x_if | with_reducible apply x_par | with_reducible apply x_for | with_reducible apply x_c | with_reducible apply x_d1 | with_reducible apply x_d2 | with_reducible apply x_nil | with_reducible apply x_cons | with_reducible apply x_args | with_reducible apply x_call | with_reducible apply x_test | with_reducible apply x_asB | with_reducible apply x_andT | with_reducible apply x_orT | with_reducible apply x_notT | with_reducible apply x_andV | with_reducible apply x_orV | with_reducible apply x_notV | with_reducible apply x_ifE | with_reducible apply x_chain | with_reducible apply x_tup | with_reducible apply x_lst | with_reducible apply x_yes | with_reducible apply x_isi | with_reducible apply x_meth | with_reducible apply x_meth0 | with_reducible apply x_methLT | with_reducible apply x_methLTt | with_reducible apply x_gTup | with_reducible apply x_gWtup | with_reducible apply x_gnn | with_reducible apply x_gSub | with_reducible apply x_add | with_reducible apply x_sub | with_reducible apply x_neg | with_reducible apply x_lt | with_reducible apply x_le | with_reducible apply x_gt | with_reducible apply x_ge | with_reducible apply x_eq | with_reducible apply x_ne | with_reducible apply x_eqB | with_reducible apply x_neB | with_reducible apply x_is | with_reducible apply x_isNot | with_reducible apply x_lenT | with_reducible apply x_int | with_reducible apply x_tupT | with_reducible apply x_wSeq | with_reducible apply x_wT | with_reducible apply x_wR | with_reducible apply x_wRng1 | with_reducible apply x_wEnum | with_reducible apply x_dFld | with_reducible apply x_cut01 | with_reducible apply x_cut10 | with_reducible apply x_asI | with_reducible apply x_cutT | with_reducible apply x_iteT | with_reducible apply x_iteF | with_reducible apply x_max2 | with_reducible apply x_min2 | with_reducible apply x_bits | with_reducible refine x_var (by with_unfolding_all rfl) ?_ | with_reducible refine x_gName (by dsimp only [setE] <;> with_unfolding_all rfl) ?_ | with_reducible refine x_gnc (by dsimp only [setE] <;> with_unfolding_all rfl) ?_ | with_reducible refine x_len0 (by with_unfolding_all rfl) ?_ | with_reducible refine x_isiR (by with_unfolding_all exact True.intro) ?_ | with_reducible refine x_ixL (by assumption) (by with_unfolding_all rfl) ?_ | with_reducible refine x_ixT (by with_unfolding_all rfl) ?_ | with_reducible refine x_lenL (by assumption) ?_ | with_reducible refine x_gSubR (by assumption) (by with_unfolding_all rfl) ?_ | with_reducible refine x_lc (by dsimp only [wipeE, setE] <;> with_unfolding_all rfl) ?_))
          have := h1 rfl
          simp only [eu, Option.getD_some] at this
          exact this
        · have ef : ∀ ys : List D, ys.filter (fun _ => true) = ys := fun ys => List.filter_eq_self.mpr fun _ _ => rfl
          rw [ef]
          have em : ((Int.toNat (xs.length : Int))) = xs.length := by omega
          rw [em, range_map]
          refine x_addL (xs := rs.map pair2) (ys := xs.map pair2) (by rw [lstAt_ne rl.symm]; exact lstAt_put) lstAt_put (by simp [LINE]; omega) ?_
          intro s hs
          have sn : μ0 s = none := by
            cases hq : μ0 s with
            | none => rfl
            | some o =>
              have z2 := S' _ _ hq
              have ne : s ≠ r := by intro z; subst z; exact absurd (z2.symm.trans hr) (by simp)
              exact absurd (((put_ne ne).trans z2).symm.trans hs) (by simp)
          (repeat (first | with_reducible apply x_seq | with_reducible apply x_asg | with_reducible apply x_ret | with_reducible apply x_retN | with_reducible apply x_drop | with_reducible apply x_next | with_reducible apply x_break | with_reducible apply x_cont | with_reducible apply x_if | with_reducible apply x_par | with_reducible apply x_for | with_reducible apply x_c | with_reducible apply x_d1 | with_reducible apply x_d2 | with_reducible apply x_nil | with_reducible apply x_cons | with_reducible apply x_args | with_reducible apply x_call | with_reducible apply x_test | with_reducible apply x_asB | with_reducible apply x_andT | with_reducible apply x_orT | with_reducible apply x_notT | with_reducible apply x_andV | with_reducible apply x_orV | with_reducible apply x_notV | with_reducible apply x_ifE | with_reducible apply x_chain | with_reducible apply x_tup | with_reducible apply x_lst | with_reducible apply x_yes | with_reducible apply x_isi | with_reducible apply x_meth | with_reducible apply x_meth0 | with_reducible apply x_methLT | with_reducible apply x_methLTt | with_reducible apply x_gTup | with_reducible apply x_gWtup | with_reducible apply x_gnn | with_reducible apply x_gSub | with_reducible apply x_add | with_reducible apply x_sub | with_reducible apply x_neg | with_reducible apply x_lt | with_reducible apply x_le | with_reducible apply x_gt | with_reducible apply x_ge | with_reducible apply x_eq | with_reducible apply x_ne | with_reducible apply x_eqB | with_reducible apply x_neB | with_reducible apply x_is | with_reducible apply x_isNot | with_reducible apply x_lenT | with_reducible apply x_int | with_reducible apply x_tupT | with_reducible apply x_wSeq | with_reducible apply x_wT | with_reducible apply x_wR | with_reducible apply x_wRng1 | with_reducible apply x_wEnum | with_reducible apply x_dFld | with_reducible apply x_cut01 | with_reducible apply x_cut10 | with_reducible apply x_asI | with_reducible apply x_cutT | with_reducible apply x_iteT | with_reducible apply x_iteF | with_reducible apply x_max2 | with_reducible apply x_min2 | with_reducible apply x_bits | with_reducible refine x_var (by with_unfolding_all rfl) ?_ | with_reducible refine x_gName (by dsimp only [setE] <;> with_unfolding_all rfl) ?_ | with_reducible refine x_gnc (by dsimp only [setE] <;> with_unfolding_all rfl) ?_ | with_reducible refine x_len0 (by with_unfolding_all rfl) ?_ | with_reducible refine x_isiR (by with_unfolding_all exact True.intro) ?_ | with_reducible refine x_ixL (by assumption) (by with_unfolding_all rfl) ?_ | with_reducible refine x_ixT (by with_unfolding_all rfl) ?_ | with_reducible refine x_lenL (by assumption) ?_ | with_reducible refine x_gSubR (by assumption) (by with_unfolding_all rfl) ?_ | with_reducible refine x_lc (by dsimp only [wipeE, setE] <;> with_unfolding_all rfl) ?_))
          refine ih (rs ++ xs) s _ _ _ ((S'.new hr).new hs) sn (by rw [lstAt_put, List.map_append]) ?_ ?_ ?_ ?_
          · have z : ∀ (a b : List D), plainL a = true → plainL b = true → plainL (a ++ b) = true := fun a b => by
              induction a with
              | nil => intro _ h; exact h
              | cons x a ih =>
                intro h k
                simp only [List.cons_append, plainL, Bool.and_eq_true] at h ⊢
                exact ⟨h.1, ih h.2 k⟩
            refine z _ _ hpr ?_
            simpa [plain] using hpd
          · have z : ∀ (a b : List D) (n : Nat), depthL a ≤ n → depthL b ≤ n → depthL (a ++ b) ≤ n := fun a b n => by
              induction a with
              | nil => intro _ h; exact h
              | cons x a ih =>
                intro h k
                simp only [List.cons_append, depthL] at h ⊢
                have := ih (by omega) k
                omega
            refine z _ _ _ hdr ?_
            simp only [depth] at hdd
            omega
          · rw [sizeL_app]; omega
          · rw [sizeL_app]; omega
      | loc a => exact absurd rfl (nl a)
      | wtup a => exact absurd rfl (nw a)
      | rol a => simp [plain] at hpd
      | _ =>
        refine x_iteF ?_
        (repeat (first | with_reducible apply x_seq | with_reducible apply x_asg | with_reducible apply x_ret | with_reducible apply x_retN | with_reducible apply x_drop | with_reducible apply x_next | with_reducible apply x_break | with_reducible apply x_cont | with_reducible apply x_if | with_reducible apply x_par | with_reducible apply x_for | with_reducible apply x_c | with_reducible apply x_d1 | with_reducible apply x_d2 | with_reducible apply x_nil | with_reducible apply x_cons | with_reducible apply x_args | with_reducible apply x_call | with_reducible apply x_test | with_reducible apply x_asB | with_reducible apply x_andT | with_reducible apply x_orT | with_reducible apply x_notT | with_reducible apply x_andV | with_reducible apply x_orV | with_reducible apply x_notV | with_reducible apply x_ifE | with_reducible apply x_chain | with_reducible apply x_tup | with_reducible apply x_lst | with_reducible apply x_yes | with_reducible apply x_isi | with_reducible apply x_meth | with_reducible apply x_meth0 | with_reducible apply x_methLT | with_reducible apply x_methLTt | with_reducible apply x_gTup | with_reducible apply x_gWtup | with_reducible apply x_gnn | with_reducible apply x_gSub | with_reducible apply x_add | with_reducible apply x_sub | with_reducible apply x_neg | with_reducible apply x_lt | with_reducible apply x_le | with_reducible apply x_gt | with_reducible apply x_ge | with_reducible apply x_eq | with_reducible apply x_ne | with_reducible apply x_eqB | with_reducible apply x_neB | with_reducible apply x_is | with_reducible apply x_isNot | with_reducible apply x_lenT | with_reducible apply x_int | with_reducible apply x_tupT | with_reducible apply x_wSeq | with_reducible apply x_wT | with_reducible apply x_wR | with_reducible apply x_wRng1 | with_reducible apply x_wEnum | with_reducible apply x_dFld | with_reducible apply x_cut01 | with_reducible apply x_cut10 | with_reducible apply x_asI | with_reducible apply x_cutT | with_reducible apply x_iteT | with_reducible apply x_iteF | with_reducible apply x_max2 | with_reducible apply x_min2 | with_reducible apply x_bits | with_reducible refine x_var (by with_unfolding_all rfl) ?_ | with_reducible refine x_gName (by dsimp only [setE] <;> with_unfolding_all rfl) ?_ | with_reducible refine x_gnc (by dsimp only [setE] <;> with_unfolding_all rfl) ?_ | with_reducible refine x_len0 (by with_unfolding_all rfl) ?_ | with_reducible refine x_isiR (by with_unfolding_all exact True.intro) ?_ | with_reducible refine x_ixL (by assumption) (by with_unfolding_all rfl) ?_ | with_reducible refine x_ixT (by with_unfolding_all rfl) ?_ | with_reducible refine x_lenL (by assumption) ?_ | with_reducible refine x_gSubR (by assumption) (by with_unfolding_all rfl) ?_ | with_reducible refine x_lc (by dsimp only [wipeE, setE] <;> with_unfolding_all rfl) ?_))
        try refine x_isiR (isiOk_plain hpd _) ?_
        (repeat (first | with_reducible apply x_seq | with_reducible apply x_asg | with_reducible apply x_ret | with_reducible apply x_retN | with_reducible apply x_drop | with_reducible apply x_next | with_reducible apply x_break | with_reducible apply x_cont | with_reducible apply x_if | with_reducible apply x_par | with_reducible apply x_for | with_reducible apply x_c | with_reducible apply x_d1 | with_reducible apply x_d2 | with_reducible apply x_nil | with_reducible apply x_cons | with_reducible apply x_args | with_reducible apply x_call | with_reducible apply x_test | with_reducible apply x_asB | with_reducible apply x_andT | with_reducible apply x_orT | with_reducible apply x_notT | with_reducible apply x_andV | with_reducible apply x_orV | with_reducible apply x_notV | with_reducible apply x_ifE | with_reducible apply x_chain | with_reducible apply x_tup | with_reducible apply x_lst | with_reducible apply x_yes | with_reducible apply x_isi | with_reducible apply x_meth | with_reducible apply x_meth0 | with_reducible apply x_methLT | with_reducible apply x_methLTt | with_reducible apply x_gTup | with_reducible apply x_gWtup | with_reducible apply x_gnn | with_reducible apply x_gSub | with_reducible apply x_add | with_reducible apply x_sub | with_reducible apply x_neg | with_reducible apply x_lt | with_reducible apply x_le | with_reducible apply x_gt | with_reducible apply x_ge | with_reducible apply x_eq | with_reducible apply x_ne | with_reducible apply x_eqB | with_reducible apply x_neB | with_reducible apply x_is | with_reducible apply x_isNot | with_reducible apply x_lenT | with_reducible apply x_int | with_reducible apply x_tupT | with_reducible apply x_wSeq | with_reducible apply x_wT | with_reducible apply x_wR | with_reducible apply x_wRng1 | with_reducible apply x_wEnum | with_reducible apply x_dFld | with_reducible apply x_cut01 | with_reducible apply x_cut10 | with_reducible apply x_asI | with_reducible apply x_cutT | with_reducible apply x_iteT | with_reducible apply x_iteF | with_reducible apply x_max2 | with_reducible apply x_min2 | with_reducible apply x_bits | with_reducible refine x_var (by with_unfolding_all rfl) ?_ | with_reducible refine x_gName (by dsimp only [setE] <;> with_unfolding_all rfl) ?_ | with_reducible refine x_gnc (by dsimp only [setE] <;> with_unfolding_all rfl) ?_ | with_reducible refine x_len0 (by with_unfolding_all rfl) ?_ | with_reducible refine x_isiR (by with_unfolding_all exact True.intro) ?_ | with_reducible refine x_ixL (by assumption) (by with_unfolding_all rfl) ?_ | with_reducible refine x_ixT (by with_unfolding_all rfl) ?_ | with_reducible refine x_lenL (by assumption) ?_ | with_reducible refine x_gSubR (by assumption) (by with_unfolding_all rfl) ?_ | with_reducible refine x_lc (by dsimp only [wipeE, setE] <;> with_unfolding_all rfl) ?_))
        try refine x_isiR (isiOk_plain hpd _) ?_
        (repeat (first | with_reducible apply x_seq | with_reducible apply x_asg | with_reducible apply x_ret | with_reducible apply x_retN | with_reducible apply x_drop | with_reducible apply x_next | with_reducible apply x_break | with_reducible apply x_cont | with_reducible apply x_if | with_reducible apply x_par | with_reducible apply x_for | with_reducible apply x_c | with_reducible apply x_d1 | with_reducible apply x_d2 | with_reducible apply x_nil | with_reducible apply x_cons | with_reducible apply x_args | with_reducible apply x_call | with_reducible apply x_test | with_reducible apply x_asB | with_reducible apply x_andT | with_reducible apply x_orT | with_reducible apply x_notT | with_reducible apply x_andV | with_reducible apply x_orV | with_reducible apply x_notV | with_reducible apply x_ifE | with_reducible apply x_chain | with_reducible apply x_tup | with_reducible apply x_lst | with_reducible apply x_yes | with_reducible apply x_isi | with_reducible apply x_meth | with_reducible apply x_meth0 | with_reducible apply x_methLT | with_reducible apply x_methLTt | with_reducible apply x_gTup | with_reducible apply x_gWtup | with_reducible apply x_gnn | with_reducible apply x_gSub | with_reducible apply x_add | with_reducible apply x_sub | with_reducible apply x_neg | with_reducible apply x_lt | with_reducible apply x_le | with_reducible apply x_gt | with_reducible apply x_ge | with_reducible apply x_eq | with_reducible apply x_ne | with_reducible apply x_eqB | with_reducible apply x_neB | with_reducible apply x_is | with_reducible apply x_isNot | with_reducible apply x_lenT | with_reducible apply x_int | with_reducible apply x_tupT | with_reducible apply x_wSeq | with_reducible apply x_wT | with_reducible apply x_wR | with_reducible apply x_wRng1 | with_reducible apply x_wEnum | with_reducible apply x_dFld | with_reducible apply x_cut01 | with_reducible apply x_cut10 | with_reducible apply x_asI | with_reducible apply x_cutT | with_reducible apply x_iteT | with_reducible apply x_iteF | with_reducible apply x_max2 | with_reducible apply x_min2 | with_reducible apply x_bits | with_reducible refine x_var (by with_unfolding_all rfl) ?_ | with_reducible refine x_gName (by dsimp only [setE] <;> with_unfolding_all rfl) ?_ | with_reducible refine x_gnc (by dsimp only [setE] <;> with_unfolding_all rfl) ?_ | with_reducible refine x_len0 (by with_unfolding_all rfl) ?_ | with_reducible refine x_isiR (by with_unfolding_all exact True.intro) ?_ | with_reducible refine x_ixL (by assumption) (by with_unfolding_all rfl) ?_ | with_reducible refine x_ixT (by with_unfolding_all rfl) ?_ | with_reducible refine x_lenL (by assumption) ?_ | with_reducible refine x_gSubR (by assumption) (by with_unfolding_all rfl) ?_ | with_reducible refine x_lc (by dsimp only [wipeE, setE] <;> with_unfolding_all rfl) ?_))
        rw [eb]
        (repeat (first | with_reducible apply x_seq | with_reducible apply x_asg | with_reducible apply x_ret | with_reducible apply x_retN | with_reducible apply x_drop | with_reducible apply x_next | with_reducible apply x_break | with_reducible apply x_cont | with_reducible apply x_if | with_reducible apply x_par | with_reducible apply x_for | with_reducible apply x_c | with_reducible apply x_d1 | with_reducible apply x_d2 | with_reducible apply x_nil | with_reducible apply x_cons | with_reducible apply x_args | with_reducible apply x_call | with_reducible apply x_test | with_reducible apply x_asB | with_reducible apply x_andT | with_reducible apply x_orT | with_reducible apply x_notT | with_reducible apply x_andV | with_reducible apply x_orV | with_reducible apply x_notV | with_reducible apply x_ifE | with_reducible apply x_chain | with_reducible apply x_tup | with_reducible apply x_lst | with_reducible apply x_yes | with_reducible apply x_isi | with_reducible apply x_meth | with_reducible apply x_meth0 | with_reducible apply x_methLT | with_reducible apply x_methLTt | with_reducible apply x_gTup | with_reducible apply x_gWtup | with_reducible apply x_gnn | with_reducible apply x_gSub | with_reducible apply x_add | with_reducible apply x_sub | with_reducible apply x_neg | with_reducible apply x_lt | with_reducible apply x_le | with_reducible apply x_gt | with_reducible apply x_ge | with_reducible apply x_eq | with_reducible apply x_ne | with_reducible apply x_eqB | with_reducible apply x_neB | with_reducible apply x_is | with_reducible apply x_isNot | with_reducible apply x_lenT | with_reducible apply x_int | with_reducible apply x_tupT | with_reducible apply x_wSeq | with_reducible apply x_wT | with_reducible apply x_wR | with_reducible apply x_wRng1 | with_reducible apply x_wEnum | with_reducible apply x_dFld | with_reducible apply x_cut01 | with_reducible apply x_cut10 | with_reducible apply x_asI | with_reducible apply x_cutT | with_reducible apply x_iteT | with_reducible apply x_iteF | with_reducible apply x_max2 | with_reducible apply x_min2 | with_reducible apply x_bits | with_reducible refine x_var (by with_unfolding_all rfl) ?_ | with_reducible refine x_gName (by dsimp only [setE] <;> with_unfolding_all rfl) ?_ | with_reducible refine x_gnc (by dsimp only [setE] <;> with_unfolding_all rfl) ?_ | with_reducible refine x_len0 (by with_unfolding_all rfl) ?_ | with_reducible refine x_isiR (by with_unfolding_all exact True.intro) ?_ | with_reducible refine x_ixL (by assumption) (by with_unfolding_all rfl) ?_ | with_reducible refine x_ixT (by with_unfolding_all rfl) ?_ | with_reducible refine x_lenL (by assumption) ?_ | with_reducible refine x_gSubR (by assumption) (by with_unfolding_all rfl) ?_ | with_reducible refine x_lc (by dsimp only [wipeE, setE] <;> with_unfolding_all rfl) ?_))
        try refine x_isiR (isiOk_plain hpd _) ?_
        (repeat (first | with_reducible apply x_seq | with_reducible apply x_asg | with_reducible apply x_ret | with_reducible apply x_retN | with_reducible apply x_drop | with_reducible apply x_next | with_reducible apply x_break | with_reducible apply x_cont | with_reducible apply x_if | with_reducible apply x_par | with_reducible apply x_for | with_reducible apply x_c | with_reducible apply x_d1 | with_reducible apply x_d2 | with_reducible apply x_nil | with_reducible apply x_cons | with_reducible apply x_args | with_reducible apply x_call | with_reducible apply x_test | with_reducible apply x_asB | with_reducible apply x_andT | with_reducible apply x_orT | with_reducible apply x_notT | with_reducible apply x_andV | with_reducible apply x_orV | with_reducible apply x_notV | with_reducible apply x_ifE | with_reducible apply x_chain | with_reducible apply x_tup | with_reducible apply x_lst | with_reducible apply x_yes | with_reducible apply x_isi | with_reducible apply x_meth | with_reducible apply x_meth0 | with_reducible apply x_methLT | with_reducible apply x_methLTt | with_reducible apply x_gTup | with_reducible apply x_gWtup | with_reducible apply x_gnn | with_reducible apply x_gSub | with_reducible apply x_add | with_reducible apply x_sub | with_reducible apply x_neg | with_reducible apply x_lt | with_reducible apply x_le | with_reducible apply x_gt | with_reducible apply x_ge | with_reducible apply x_eq | with_reducible apply x_ne | with_reducible apply x_eqB | with_reducible apply x_neB | with_reducible apply x_is | with_reducible apply x_isNot | with_reducible apply x_lenT | with_reducible apply x_int | with_reducible apply x_tupT | with_reducible apply x_wSeq | with_reducible apply x_wT | with_reducible apply x_wR | with_reducible apply x_wRng1 | with_reducible apply x_wEnum | with_reducible apply x_dFld | with_reducible apply x_cut01 | with_reducible apply x_cut10 | with_reducible apply x_asI | with_reducible apply x_cutT | with_reducible apply x_iteT | with_reducible apply x_iteF | with_reducible apply x_max2 | with_reducible apply x_min2 | with_reducible apply x_bits | with_reducible refine x_var (by with_unfolding_all rfl) ?_ | with_reducible refine x_gName (by dsimp only [setE] <;> with_unfolding_all rfl) ?_ | with_reducible refine x_gnc (by dsimp only [setE] <;> with_unfolding_all rfl) ?_ | with_reducible refine x_len0 (by with_unfolding_all rfl) ?_ | with_reducible refine x_isiR (by with_unfolding_all exact True.intro) ?_ | with_reducible refine x_ixL (by assumption) (by with_unfolding_all rfl) ?_ | with_reducible refine x_ixT (by with_unfolding_all rfl) ?_ | with_reducible refine x_lenL (by assumption) ?_ | with_reducible refine x_gSubR (by assumption) (by with_unfolding_all rfl) ?_ | with_reducible refine x_lc (by dsimp only [wipeE, setE] <;> with_unfolding_all rfl) ?_))
        try refine x_isiR (isiOk_plain hpd _) ?_
        (repeat (first | with_reducible apply x_seq | with_reducible apply x_asg | with_reducible apply x_ret | with_reducible apply x_retN | with_reducible apply x_drop | with_reducible apply x_next | with_reducible apply x_break | with_reducible apply x_cont | with_reducible apply x_if | with_reducible apply x_par | with_reducible apply x_for | with_reducible apply x_c | with_reducible apply x_d1 | with_reducible apply x_d2 | with_reducible apply x_nil | with_reducible apply x_cons | with_reducible apply x_args | with_reducible apply x_call | with_reducible apply x_test | with_reducible apply x_asB | with_reducible apply x_andT | with_reducible apply x_orT | with_reducible apply x_notT | with_reducible apply x_andV | with_reducible apply x_orV | with_reducible apply x_notV | with_reducible apply x_ifE | with_reducible apply x_chain | with_reducible apply x_tup | with_reducible apply x_lst | with_reducible apply x_yes | with_reducible apply x_isi | with_reducible apply x_meth | with_reducible apply x_meth0 | with_reducible apply x_methLT | with_reducible apply x_methLTt | with_reducible apply x_gTup | with_reducible apply x_gWtup | with_reducible apply x_gnn | with_reducible apply x_gSub | with_reducible apply x_add | with_reducible apply x_sub | with_reducible apply x_neg | with_reducible apply x_lt | with_reducible apply x_le | with_reducible apply x_gt | with_reducible apply x_ge | with_reducible apply x_eq | with_reducible apply x_ne | with_reducible apply x_eqB | with_reducible apply x_neB | with_reducible apply x_is | with_reducible apply x_isNot | with_reducible apply x_lenT | with_reducible apply x_int | with_reducible apply x_tupT | with_reducible apply x_wSeq | with_reducible apply x_wT | with_reducible apply x_wR | with_reducible apply x_wRng1 | with_reducible apply x_wEnum | with_reducible apply x_dFld | with_reducible apply x_cut01 | with_reducible apply x_cut10 | with_reducible apply x_asI | with_reducible apply x_cutT | with_reducible apply x_iteT | with_reducible apply x_iteF | with_reducible apply x_max2 | with_reducible apply x_min2 | with_reducible apply x_bits | with_reducible refine x_var (by with_unfolding_all rfl) ?_ | with_reducible refine x_gName (by dsimp only [setE] <;> with_unfolding_all rfl) ?_ | with_reducible refine x_gnc (by dsimp only [setE] <;> with_unfolding_all rfl) ?_ | with_reducible refine x_len0 (by with_unfolding_all rfl) ?_ | with_reducible refine x_isiR (by with_unfolding_all exact True.intro) ?_ | with_reducible refine x_ixL (by assumption) (by with_unfolding_all rfl) ?_ | with_reducible refine x_ixT (by with_unfolding_all rfl) ?_ | with_reducible refine x_lenL (by assumption) ?_ | with_reducible refine x_gSubR (by assumption) (by with_unfolding_all rfl) ?_ | with_reducible refine x_lc (by dsimp only [wipeE, setE] <;> with_unfolding_all rfl) ?_))
        rw [eb]
        (repeat (first | with_reducible apply x_seq | with_reducible apply x_asg | with_reducible apply x_ret | with_reducible apply x_retN | with_reducible apply x_drop | with_reducible apply x_next | with_reducible apply x_break | with_reducible apply x_cont | with_reducible apply x_if | with_reducible apply x_par | with_reducible apply x_for | with_reducible apply x_c | with_reducible apply x_d1 | with_reducible apply x_d2 | with_reducible apply x_nil | with_reducible apply x_cons | with_reducible apply x_args | with_reducible apply x_call | with_reducible apply x_test | with_reducible apply x_asB | with_reducible apply x_andT | with_reducible apply x_orT | with_reducible apply x_notT | with_reducible apply x_andV | with_reducible apply x_orV | with_reducible apply x_notV | with_reducible apply x_ifE | with_reducible apply x_chain | with_reducible apply x_tup | with_reducible apply x_lst | with_reducible apply x_yes | with_reducible apply x_isi | with_reducible apply x_meth | with_reducible apply x_meth0 | with_reducible apply x_methLT | with_reducible apply x_methLTt | with_reducible apply x_gTup | with_reducible apply x_gWtup | with_reducible apply x_gnn | with_reducible apply x_gSub | with_reducible apply x_add | with_reducible apply x_sub | with_reducible apply x_neg | with_reducible apply x_lt | with_reducible apply x_le | with_reducible apply x_gt | with_reducible apply x_ge | with_reducible apply x_eq | with_reducible apply x_ne | with_reducible apply x_eqB | with_reducible apply x_neB | with_reducible apply x_is | with_reducible apply x_isNot | with_reducible apply x_lenT | with_reducible apply x_int | with_reducible apply x_tupT | with_reducible apply x_wSeq | with_reducible apply x_wT | with_reducible apply x_wR | with_reducible apply x_wRng1 | with_reducible apply x_wEnum | with_reducible apply x_dFld | with_reducible apply x_cut01 | with_reducible apply x_cut10 | with_reducible apply x_asI | with_reducible apply x_cutT | with_reducible apply x_iteT | with_reducible apply x_iteF | with_reducible apply x_max2 | with_reducible apply x_min2 | with_reducible apply x_bits | with_reducible refine x_var (by with_unfolding_all rfl) ?_ | with_reducible refine x_gName (by dsimp only [setE] <;> with_unfolding_all rfl) ?_ | with_reducible refine x_gnc (by dsimp only [setE] <;> with_unfolding_all rfl) ?_ | with_reducible refine x_len0 (by with_unfolding_all rfl) ?_ | with_reducible refine x_isiR (by with_unfolding_all exact True.intro) ?_ | with_reducible refine x_ixL (by assumption) (by with_unfolding_all rfl) ?_ | with_reducible refine x_ixT (by with_unfolding_all rfl) ?_ | with_reducible refine x_lenL (by assumption) ?_ | with_reducible refine x_gSubR (by assumption) (by with_unfolding_all rfl) ?_ | with_reducible refine x_lc (by dsimp only [wipeE, setE] <;> with_unfolding_all rfl) ?_))
        try refine x_isiR (isiOk_plain hpd _) ?_
        (repeat (first | with_reducible apply x_seq | with_reducible apply x_asg | with_reducible apply x_ret | with_reducible apply x_retN | with_reducible apply x_drop | with_reducible apply x_next | with_reducible apply x_break | with_reducible apply x_cont | with_reducible apply x_if | with_reducible apply x_par | with_reducible apply x_for | with_reducible apply x_c | with_reducible apply x_d1 | with_reducible apply x_d2 | with_reducible apply x_nil | with_reducible apply x_cons | with_reducible apply x_args | with_reducible apply x_call | with_reducible apply x_test | with_reducible apply x_asB | with_reducible apply x_andT | with_reducible apply x_orT | with_reducible apply x_notT | with_reducible apply x_andV | with_reducible apply x_orV | with_reducible apply x_notV | with_reducible apply x_ifE | with_reducible apply x_chain | with_reducible apply x_tup | with_reducible apply x_lst | with_reducible apply x_yes | with_reducible apply x_isi | with_reducible apply x_meth | with_reducible apply x_meth0 | with_reducible apply x_methLT | with_reducible apply x_methLTt | with_reducible apply x_gTup | with_reducible apply x_gWtup | with_reducible apply x_gnn | with_reducible apply x_gSub | with_reducible apply x_add | with_reducible apply x_sub | with_reducible apply x_neg | with_reducible apply x_lt | with_reducible apply x_le | with_reducible apply x_gt | with_reducible apply x_ge | with_reducible apply x_eq | with_reducible apply x_ne | with_reducible apply x_eqB | with_reducible apply x_neB | with_reducible apply x_is | with_reducible apply x_isNot | with_reducible apply x_lenT | with_reducible apply x_int | with_reducible apply x_tupT | with_reducible apply x_wSeq | with_reducible apply x_wT | with_reducible apply x_wR | with_reducible apply x_wRng1 | with_reducible apply x_wEnum | with_reducible apply x_dFld | with_reducible apply x_cut01 | with_reducible apply x_cut10 | with_reducible apply x_asI | with_reducible apply x_cutT | with_reducible apply x_iteT | with_reducible apply x_iteF | with_reducible apply x_max2 | with_reducible apply x_min2 | with_reducible apply x_bits | with_reducible refine x_var (by with_unfolding_all rfl) ?_ | with_reducible refine x_gName (by dsimp only [setE] <;> with_unfolding_all rfl) ?_ | with_reducible refine x_gnc (by dsimp only [setE] <;> with_unfolding_all rfl) ?_ | with_reducible refine x_len0 (by with_unfolding_all rfl) ?_ | with_reducible refine x_isiR (by with_unfolding_all exact True.intro) ?_ | with_reducible refine x_ixL (by assumption) (by with_unfolding_all rfl) ?_ | with_reducible refine x_ixT (by with_unfolding_all rfl) ?_ | with_reducible refine x_lenL (by assumption) ?_ | with_reducible refine x_gSubR (by assumption) (by with_unfolding_all rfl) ?_ | with_reducible refine x_lc (by dsimp only [wipeE, setE] <;> with_unfolding_all rfl) ?_))
        try refine x_isiR (isiOk_plain hpd _) ?_
        (repeat (first | with_reducible apply x_seq | with_reducible apply x_asg | with_reducible apply x_ret | with_reducible apply x_retN | with_reducible apply x_drop | with_reducible apply x_next | with_reducible apply x_break | with_reducible apply x_cont | with_reducible apply x_if | with_reducible apply x_par | with_reducible apply x_for | with_reducible apply x_c | with_reducible apply x_d1 | with_reducible apply x_d2 | with_reducible apply x_nil | with_reducible apply x_cons | with_reducible apply x_args | with_reducible apply x_call | with_reducible apply x_test | with_reducible apply x_asB | with_reducible apply x_andT | with_reducible apply x_orT | with_reducible apply x_notT | with_reducible apply x_andV | with_reducible apply x_orV | with_reducible apply x_notV | with_reducible apply x_ifE | with_reducible apply x_chain | with_reducible apply x_tup | with_reducible apply x_lst | with_reducible apply x_yes | with_reducible apply x_isi | with_reducible apply x_meth | with_reducible apply x_meth0 | with_reducible apply x_methLT | with_reducible apply x_methLTt | with_reducible apply x_gTup | with_reducible apply x_gWtup | with_reducible apply x_gnn | with_reducible apply x_gSub | with_reducible apply x_add | with_reducible apply x_sub | with_reducible apply x_neg | with_reducible apply x_lt | with_reducible apply x_le | with_reducible apply x_gt | with_reducible apply x_ge | with_reducible apply x_eq | with_reducible apply x_ne | with_reducible apply x_eqB | with_reducible apply x_neB | with_reducible apply x_is | with_reducible apply x_isNot | with_reducible apply x_lenT | with_reducible apply x_int | with_reducible apply x_tupT | with_reducible apply x_wSeq | with_reducible apply x_wT | with_reducible apply x_wR | with_reducible apply x_wRng1 | with_reducible apply x_wEnum | with_reducible apply x_dFld | with_reducible apply x_cut01 | with_reducible apply x_cut10 | with_reducible apply x_asI | with_reducible apply x_cutT | with_reducible apply x_iteT | with_reducible apply x_iteF | with_reducible apply x_max2 | with_reducible apply x_min2 | with_reducible apply x_bits | with_reducible refine x_var (by with_unfolding_all rfl) ?_ | with_reducible refine x_gName (by dsimp only [setE] <;> with_unfolding_all rfl) ?_ | with_reducible refine x_gnc (by dsimp only [setE] <;> with_unfolding_all rfl) ?_ | with_reducible refine x_len0 (by with_unfolding_all rfl) ?_ | with_reducible refine x_isiR (by with_unfolding_all exact True.intro) ?_ | with_reducible refine x_ixL (by assumption) (by with_unfolding_all rfl) ?_ | with_reducible refine x_ixT (by with_unfolding_all rfl) ?_ | with_reducible refine x_lenL (by assumption) ?_ | with_reducible refine x_gSubR (by assumption) (by with_unfolding_all rfl) ?_ | with_reducible refine x_lc (by dsimp only [wipeE, setE] <;> with_unfolding_all rfl) ?_))
        rw [eb]
        (repeat (first | with_reducible apply x_seq | with_reducible apply x_asg | with_reducible apply x_ret | with_reducible apply x_retN | with_reducible apply x_drop | with_reducible apply x_next | with_reducible apply x_break | with_reducible apply x_cont | with_reducible apply x_if | with_reducible apply x_par | with_reducible apply x_for | with_reducible apply x_c | with_reducible apply x_d1 | with_reducible apply x_d2 | with_reducible apply x_nil | with_reducible apply x_cons | with_reducible apply x_args | with_reducible apply x_call | with_reducible apply x_test | with_reducible apply x_asB | with_reducible apply x_andT | with_reducible apply x_orT | with_reducible apply x_notT | with_reducible apply x_andV | with_reducible apply x_orV | with_reducible apply x_notV | with_reducible apply x_ifE | with_reducible apply x_chain | with_reducible apply x_tup | with_reducible apply x_lst | with_reducible apply x_yes | with_reducible apply x_isi | with_reducible apply x_meth | with_reducible apply x_meth0 | with_reducible apply x_methLT | with_reducible apply x_methLTt | with_reducible apply x_gTup | with_reducible apply x_gWtup | with_reducible apply x_gnn | with_reducible apply x_gSub | with_reducible apply x_add | with_reducible apply x_sub | with_reducible apply x_neg | with_reducible apply x_lt | with_reducible apply x_le | with_reducible apply x_gt | with_reducible apply x_ge | with_reducible apply x_eq | with_reducible apply x_ne | with_reducible apply x_eqB | with_reducible apply x_neB | with_reducible apply x_is | with_reducible apply x_isNot | with_reducible apply x_lenT | with_reducible apply x_int | with_reducible apply x_tupT | with_reducible apply x_wSeq | with_reducible apply x_wT | with_reducible apply x_wR | with_reducible apply x_wRng1 | with_reducible apply x_wEnum | with_reducible apply x_dFld | with_reducible apply x_cut01 | with_reducible apply x_cut10 | with_reducible apply x_asI | with_reducible apply x_cutT | with_reducible apply x_iteT | with_reducible apply x_iteF | with_reducible apply x_max2 | with_reducible apply x_min2 | with_reducible apply x_bits | with_reducible refine x_var (by with_unfolding_all rfl) ?_ | with_reducible refine x_gName (by dsimp only [setE] <;> with_unfolding_all rfl) ?_ | with_reducible refine x_gnc (by dsimp only [setE] <;> with_unfolding_all rfl) ?_ | with_reducible refine x_len0 (by with_unfolding_all rfl) ?_ | with_reducible refine x_isiR (by with_unfolding_all exact True.intro) ?_ | with_reducible refine x_ixL (by assumption) (by with_unfolding_all rfl) ?_ | with_reducible refine x_ixT (by with_unfolding_all rfl) ?_ | with_reducible refine x_lenL (by assumption) ?_ | with_reducible refine x_gSubR (by assumption) (by with_unfolding_all rfl) ?_ | with_reducible refine x_lc (by dsimp only [wipeE, setE] <;> with_unfolding_all rfl) ?_))
        first
          | refine x_neS ok nl ?_
          | rw [eb]
          | rw [show ∀ i : Int, decide (i ≠ i) = false from fun i => by simp]
        (repeat (first | with_reducible apply x_seq | with_reducible apply x_asg | with_reducible apply x_ret | with_reducible apply x_retN | with_reducible apply x_drop | with_reducible apply x_next | with_reducible apply x_break | with_reducible apply x_cont | with_reducible apply x_if | with_reducible apply x_par | with_reducible apply x_for | with_reducible apply x_c | with_reducible apply x_d1 | with_reducible apply x_d2 | with_reducible apply x_nil | with_reducible apply x_cons | with_reducible apply x_args | with_reducible apply x_call | with_reducible apply x_test | with_reducible apply x_asB | with_reducible apply x_andT | with_reducible apply x_orT | with_reducible apply x_notT | with_reducible apply x_andV | with_reducible apply x_orV | with_reducible apply x_notV | with_reducible apply x_ifE | with_reducible apply x_chain | with_reducible apply x_tup | with_reducible apply x_lst | with_reducible apply x_yes | with_reducible apply x_isi | with_reducible apply x_meth | with_reducible apply x_meth0 | with_reducible apply x_methLT | with_reducible apply x_methLTt | with_reducible apply x_gTup | with_reducible apply x_gWtup | with_reducible apply x_gnn | with_reducible apply x_gSub | with_reducible apply x_add | with_reducible apply x_sub | with_reducible apply x_neg | with_reducible apply x_lt | with_reducible apply x_le | with_reducible apply x_gt | with_reducible apply x_ge | with_reducible apply x_eq | with_reducible apply x_ne | with_reducible apply x_eqB | with_reducible apply x_neB | with_reducible apply x_is | with_reducible apply x_isNot | with_reducible apply x_lenT | with_reducible apply x_int | with_reducible apply x_tupT | with_reducible apply x_wSeq | with_reducible apply x_wT | with_reducible apply x_wR | with_reducible apply x_wRng1 | with_reducible apply x_wEnum | with_reducible apply x_dFld | with_reducible apply x_cut01 | with_reducible apply x_cut10 | with_reducible apply x_asI | with_reducible apply x_cutT | with_reducible apply x_iteT | with_reducible apply x_iteF | with_reducible apply x_max2 | with_reducible apply x_min2 | with_reducible apply x_bits | with_reducible refine x_var (by with_unfolding_all rfl) ?_ | with_reducible refine x_gName (by dsimp only [setE] <;> with_unfolding_all rfl) ?_ | with_reducible refine x_gnc (by dsimp only [setE] <;> with_unfolding_all rfl) ?_ | with_reducible refine x_len0 (by with_unfolding_all rfl) ?_ | with_reducible refine x_isiR (by with_unfolding_all exact True.intro) ?_ | with_reducible refine x_ixL (by assumption) (by with_unfolding_all rfl) ?_ | with_reducible refine x_ixT (by with_unfolding_all rfl) ?_ | with_reducible refine x_lenL (by assumption) ?_ | with_reducible refine x_gSubR (by assumption) (by with_unfolding_all rfl) ?_ | with_reducible refine x_lc (by dsimp only [wipeE, setE] <;> with_unfolding_all rfl) ?_))
        exact ih rs l _ _ _ S' hl lstAt_put hpr hdr (by omega) (by omega)
    · (repeat (first | with_reducible apply x_seq | with_reducible apply x_asg | with_reducible apply x_ret | with_reducible apply x_retN | with_reducible apply x_drop | with_reducible apply x_next | with_reducible apply x_break | with_reducible apply x_cont | with_reducible apply x_if | with_reducible apply x_par | with_reducible apply x_for | with_reducible apply x_c | with_reducible apply x_d1 | with_reducible apply x_d2 | with_reducible apply x_nil | with_reducible apply x_cons | with_reducible apply x_args | with_reducible apply x_call | with_reducible apply x_test | with_reducible apply x_asB | with_reducible apply x_andT | with_reducible apply x_orT | with_reducible apply x_notT | with_reducible apply x_andV | with_reducible apply x_orV | with_reducible apply x_notV | with_reducible apply x_ifE | with_reducible apply x_chain | with_reducible apply x_tup | with_reducible apply x_lst | with_reducible apply x_yes | with_reducible apply x_isi | with_reducible apply x_meth | with_reducible apply x_meth0 | with_reducible apply x_methLT | with_reducible apply x_methLTt | with_reducible apply x_gTup | with_reducible apply x_gWtup | with_reducible apply x_gnn | with_reducible apply x_gSub | with_reducible apply x_add | with_reducible apply x_sub | with_reducible apply x_neg | with_reducible apply x_lt | with_reducible apply x_le | with_reducible apply x_gt | with_reducible apply x_ge | with_reducible apply x_eq | with_reducible apply x_ne | with_reducible apply x_eqB | with_reducible apply x_neB | with_reducible apply x_is | with_reducible apply x_isNot | with_reducible apply x_lenT | with_reducible apply x_int | with_reducible apply x_tupT | with_reducible apply x_wSeq | with_reducible apply x_wT | with_reducible apply x_wR | with_reducible apply x_wRng1 | with_reducible apply x_wEnum | with_reducible apply x_dFld | with_reducible apply x_cut01 | with_reducible apply x_cut10 | with_reducible apply x_asI | with_reducible apply x_cutT | with_reducible apply x_iteT | with_reducible apply x_iteF | with_reducible apply x_max2 | with_reducible apply x_min2 | with_reducible apply x_bits | with_reducible refine x_var (by with_unfolding_all rfl) ?_ | with_reducible refine x_gName (by dsimp only [setE] <;> with_unfolding_all rfl) ?_ | with_reducible refine x_gnc (by dsimp only [setE] <;> with_unfolding_all rfl) ?_ | with_reducible refine x_len0 (by with_unfolding_all rfl) ?_ | with_reducible refine x_isiR (by with_unfolding_all exact True.intro) ?_ | with_reducible refine x_ixL (by assumption) (by with_unfolding_all rfl) ?_ | with_reducible refine x_ixT (by with_unfolding_all rfl) ?_ | with_reducible refine x_lenL (by assumption) ?_ | with_reducible refine x_gSubR (by assumption) (by with_unfolding_all rfl) ?_ | with_reducible refine x_lc (by dsimp only [wipeE, setE] <;> with_unfolding_all rfl) ?_))
      exact q μ S
/-- equal data: True -/
theorem same_ok {x : D} {μ : Sto} {Q : QE} {E : QX} (hp : plain x = true) (hd : depth x ≤ 64) (hz : size x ≤ 1000000) (q : Q (.bl true) μ) : prBody 2 4 sameB [x, x] μ Q E := by
  refine pr_fun (fun d => d = .bl true) rfl ?_ (fun d e => by subst e; exact q)
  unfold sameB
  show sSeq _ _ _ [some x, some x, none, none, none, none] μ
  (repeat (first | with_reducible apply x_seq | with_reducible apply x_asg | with_reducible apply x_ret | with_reducible apply x_retN | with_reducible apply x_drop | with_reducible apply x_next | with_reducible apply x_break | with_reducible apply x_cont | with_reducible apply x_if | with_reducible apply x_par | with_reducible apply x_for | with_reducible apply x_c | with_reducible apply x_d1 | with_reducible apply x_d2 | with_reducible apply x_nil | with_reducible apply x_cons | with_reducible apply x_args | with_reducible apply x_call | with_reducible apply x_test | with_reducible apply x_asB | with_reducible apply x_andT | with_reducible apply x_orT | with_reducible apply x_notT | with_reducible apply x_andV | with_reducible apply x_orV | with_reducible apply x_notV | with_reducible apply x_ifE | with_reducible apply x_chain | with_reducible apply x_tup | with_reducible apply x_lst | with_reducible apply x_yes | with_reducible apply x_isi | with_reducible apply x_meth | with_reducible apply x_meth0 | with_reducible apply x_methLT | with_reducible apply x_methLTt | with_reducible apply x_gTup | with_reducible apply x_gWtup | with_reducible apply x_gnn | with_reducible apply x_gSub | with_reducible apply x_add | with_reducible apply x_sub | with_reducible apply x_neg | with_reducible apply x_lt | with_reducible apply x_le | with_reducible apply x_gt | with_reducible apply x_ge | with_reducible apply x_eq | with_reducible apply x_ne | with_reducible apply x_eqB | with_reducible apply x_neB | with_reducible apply x_is | with_reducible apply x_isNot | with_reducible apply x_lenT | with_reducible apply x_int | with_reducible apply x_tupT | with_reducible apply x_wSeq | with_reducible apply x_wT | with_reducible apply x_wR | with_reducible apply x_wRng1 | with_reducible apply x_wEnum | with_reducible apply x_dFld | with_reducible apply x_cut01 | with_reducible apply x_cut10 | with_reducible apply x_asI | with_reducible apply x_cutT | with_reducible apply x_iteT | with_reducible apply x_iteF | with_reducible apply x_max2 | with_reducible apply x_min2 | with_reducible apply x_bits | with_reducible refine x_var (by with_unfolding_all rfl) ?_ | with_reducible refine x_gName (by dsimp only [setE] <;> with_unfolding_all rfl) ?_ | with_reducible refine x_gnc (by dsimp only [setE] <;> with_unfolding_all rfl) ?_ | with_reducible refine x_len0 (by with_unfolding_all rfl) ?_ | with_reducible refine x_isiR (by with_unfolding_all exact True.intro) ?_ | with_reducible refine x_ixL (by assumption) (by with_unfolding_all rfl) ?_ | with_reducible refine x_ixT (by with_unfolding_all rfl) ?_ | with_reducible refine x_lenL (by assumption) ?_ | with_reducible refine x_gSubR (by assumption) (by with_unfolding_all rfl) ?_ | with_reducible refine x_lc (by dsimp only [wipeE, setE] <;> with_unfolding_all rfl) ?_))
  intro l hl
  (repeat (first | with_reducible apply x_seq | with_reducible apply x_asg | with_reducible apply x_ret | with_reducible apply x_retN | with_reducible apply x_drop | with_reducible apply x_next | with_reducible apply x_break | with_reducible apply x_cont | with_reducible apply x_if | with_reducible apply x_par | with_reducible apply x_for | with_reducible apply x_c | with_reducible apply x_d1 | with_reducible apply x_d2 | with_reducible apply x_nil | with_reducible apply x_cons | with_reducible apply x_args | with_reducible apply x_call | with_reducible apply x_test | with_reducible apply x_asB | with_reducible apply x_andT | with_reducible apply x_orT | with_reducible apply x_notT | with_reducible apply x_andV | with_reducible apply x_orV | with_reducible apply x_notV | with_reducible apply x_ifE | with_reducible apply x_chain | with_reducible apply x_tup | with_reducible apply x_lst | with_reducible apply x_yes | with_reducible apply x_isi | with_reducible apply x_meth | with_reducible apply x_meth0 | with_reducible apply x_methLT | with_reducible apply x_methLTt | with_reducible apply x_gTup | with_reducible apply x_gWtup | with_reducible apply x_gnn | with_reducible apply x_gSub | with_reducible apply x_add | with_reducible apply x_sub | with_reducible apply x_neg | with_reducible apply x_lt | with_reducible apply x_le | with_reducible apply x_gt | with_reducible apply x_ge | with_reducible apply x_eq | with_reducible apply x_ne | with_reducible apply x_eqB | with_reducible apply x_neB | with_reducible apply x_is | with_reducible apply x_isNot | with_reducible apply x_lenT | with_reducible apply x_int | with_reducible apply x_tupT | with_reducible apply x_wSeq | with_reducible apply x_wT | with_reducible apply x_wR | with_reducible apply x_wRng1 | with_reducible apply x_wEnum | with_reducible apply x_dFld | with_reducible apply x_cut01 | with_reducible apply x_cut10 | with_reducible apply x_asI | with_reducible apply x_cutT | with_reducible apply x_iteT | with_reducible apply x_iteF | with_reducible apply x_max2 | with_reducible apply x_min2 | with_reducible apply x_bits | with_reducible refine x_var (by with_unfolding_all rfl) ?_ | with_reducible refine x_gName (by dsimp only [setE] <;> with_unfolding_all rfl) ?_ | with_reducible refine x_gnc (by dsimp only [setE] <;> with_unfolding_all rfl) ?_ | with_reducible refine x_len0 (by with_unfolding_all rfl) ?_ | with_reducible refine x_isiR (by with_unfolding_all exact True.intro) ?_ | with_reducible refine x_ixL (by assumption) (by with_unfolding_all rfl) ?_ | with_reducible refine x_ixT (by with_unfolding_all rfl) ?_ | with_reducible refine x_lenL (by assumption) ?_ | with_reducible refine x_gSubR (by assumption) (by with_unfolding_all rfl) ?_ | with_reducible refine x_lc (by dsimp only [wipeE, setE] <;> with_unfolding_all rfl) ?_))
  refine x_while (size x + 1) ?_
  refine same_loop (a := x) (b := x) (μ0 := μ) (Q := fun d μ1 => d = .bl true ∧ Sub μ μ1) (E := fun _ _ => False) (fun μ1 h => ⟨rfl, h⟩) _ [x] l _ _ _ ((Sub.refl μ).new hl) hl (by rw [lstAt_put]; rfl) (by simpa [plainL] using hp) (by simpa [depthL] using hd) (by simpa [sizeL] using hz) (by simp [sizeL])
end PD
set_option linter.all false
set_option maxRecDepth 100000
/-! PDHelp3: the purse's making, greatest common parts. -/
namespace PD
open PySem
/-! ### _law_common -/
def commonB : DS := sSeq (sAsg (dC (.int 0)) (gName 1)) (sSeq (sFor (wSeq (dVar 0)) (gName 2) (sSeq (sAsg (dVar 2) (gName 3)) (sWhile (dTest (d2 uGt (dVar 3) (dC (.int 0)))) (sPar 3 1 (d2 uMod (dArgs aInt (dCons (dVar 1) (dNil))) (dVar 3)) (dVar 3))))) (sRet (dVar 1)))
def gcdL : List Int → Nat → Nat
  | [], g => g
  | n :: ns, g => gcdL ns (Nat.gcd g n.toNat)
theorem gcdL_dvd : ∀ (ns : List Int) (g : Nat), gcdL ns g ∣ g
  | [], g => Nat.dvd_refl g
  | n :: ns, g => Nat.dvd_trans (gcdL_dvd ns _) (Nat.gcd_dvd_left _ _)
theorem gcdL_mem : ∀ (ns : List Int) (g : Nat) (n : Int), n ∈ ns → gcdL ns g ∣ n.toNat
  | m :: ns, g, n, h => by
    rcases List.mem_cons.mp h with e | h
    · subst e; exact Nat.dvd_trans (gcdL_dvd ns _) (Nat.gcd_dvd_right _ _)
    · exact gcdL_mem ns _ n h
theorem common_while {nx bk ct : Ev → Sto → Prop} {rt : D → Sto → Prop} {ex : Ex → Ev → Sto → Prop} {μ : Sto} {row x : Option D} :
    ∀ (n : Nat) (one told : Nat), one < n → nx [row, some (.int (Nat.gcd told one : Nat)), x, some (.int 0)] μ →
    whileW (dTest (d2 uGt (dVar 3) (dC (.int 0)))) (sPar 3 1 (d2 uMod (dArgs aInt (dCons (dVar 1) (dNil))) (dVar 3)) (dVar 3)) ⟨nx, rt, bk, ct, ex⟩ n [row, some (.int told), x, some (.int one)] μ := by
  intro n
  induction n with
  | zero => intro one told h; omega
  | succ n ih =>
    intro one told h k
    refine x_wsucc ?_
    (repeat (first | with_reducible apply x_seq | with_reducible apply x_asg | with_reducible apply x_ret | with_reducible apply x_retN | with_reducible apply x_drop | with_reducible apply x_next | with_reducible apply x_break | with_reducible apply x_cont | with_reducible apply x_if | with_reducible apply x_par | with_reducible apply x_for | with_reducible apply x_c | with_reducible apply x_d1 | with_reducible apply x_d2 | with_reducible apply x_nil | with_reducible apply x_cons | with_reducible apply x_args | with_reducible apply x_call | with_reducible apply x_test | with_reducible apply x_asB | with_reducible apply x_andT | with_reducible apply x_orT | with_reducible apply x_notT | with_reducible apply x_andV | with_reducible apply x_orV | with_reducible apply x_notV | with_reducible apply x_ifE | with_reducible apply x_chain | with_reducible apply x_tup | with_reducible apply x_lst | with_reducible apply x_yes | with_reducible apply x_isi | with_reducible apply x_meth | with_reducible apply x_meth0 | with_reducible apply x_methLT | with_reducible apply x_methLTt | with_reducible apply x_gTup | with_reducible apply x_gWtup | with_reducible apply x_gnn | with_reducible apply x_gSub | with_reducible apply x_add | with_reducible apply x_sub | with_reducible apply x_neg | with_reducible apply x_lt | with_reducible apply x_le | with_reducible apply x_gt | with_reducible apply x_ge | with_reducible apply x_eq | with_reducible apply x_ne | with_reducible apply x_eqB | with_reducible apply x_neB | with_reducible apply x_is | with_reducible apply x_isNot | with_reducible apply x_lenT | with_reducible apply x_int | with_reducible apply x_tupT | with_reducible apply x_wSeq | with_reducible apply x_wT | with_reducible apply x_wR | with_reducible apply x_wRng1 | with_reducible apply x_wEnum | with_reducible apply x_dFld | with_reducible apply x_cut01 | with_reducible apply x_cut10 | with_reducible apply x_asI | with_reducible apply x_cutT | with_reducible apply x_iteT | with_reducible apply x_iteF | with_reducible apply x_max2 | with_reducible apply x_min2 | with_reducible apply x_bits | with_reducible refine x_var (by with_unfolding_all rfl) ?_ | with_reducible refine x_gName (by dsimp only [setE] <;> with_unfolding_all rfl) ?_ | with_reducible refine x_gnc (by dsimp only [setE] <;> with_unfolding_all rfl) ?_ | with_reducible refine x_len0 (by with_unfolding_all rfl) ?_ | with_reducible refine x_isiR (by with_unfolding_all exact True.intro) ?_ | with_reducible refine x_ixL (by assumption) (by with_unfolding_all rfl) ?_ | with_reducible refine x_ixT (by with_unfolding_all rfl) ?_ | with_reducible refine x_lenL (by assumption) ?_ | with_reducible refine x_gSubR (by assumption) (by with_unfolding_all rfl) ?_ | with_reducible refine x_lc (by dsimp only [wipeE, setE] <;> with_unfolding_all rfl) ?_))
    refine x_ite (fun h0 => ?_) (fun h0 => ?_)
    · (repeat (first | with_reducible apply x_seq | with_reducible apply x_asg | with_reducible apply x_ret | with_reducible apply x_retN | with_reducible apply x_drop | with_reducible apply x_next | with_reducible apply x_break | with_reducible apply x_cont | with_reducible apply x_if | with_reducible apply x_par | with_reducible apply x_for | with_reducible apply x_c | with_reducible apply x_d1 | with_reducible apply x_d2 | with_reducible apply x_nil | with_reducible apply x_cons | with_reducible apply x_args | with_reducible apply x_call | with_reducible apply x_test | with_reducible apply x_asB | with_reducible apply x_andT | with_reducible apply x_orT | with_reducible apply x_notT | with_reducible apply x_andV | with_reducible apply x_orV | with_reducible apply x_notV | with_reducible apply x_ifE | with_reducible apply x_chain | with_reducible apply x_tup | with_reducible apply x_lst | with_reducible apply x_yes | with_reducible apply x_isi | with_reducible apply x_meth | with_reducible apply x_meth0 | with_reducible apply x_methLT | with_reducible apply x_methLTt | with_reducible apply x_gTup | with_reducible apply x_gWtup | with_reducible apply x_gnn | with_reducible apply x_gSub | with_reducible apply x_add | with_reducible apply x_sub | with_reducible apply x_neg | with_reducible apply x_lt | with_reducible apply x_le | with_reducible apply x_gt | with_reducible apply x_ge | with_reducible apply x_eq | with_reducible apply x_ne | with_reducible apply x_eqB | with_reducible apply x_neB | with_reducible apply x_is | with_reducible apply x_isNot | with_reducible apply x_lenT | with_reducible apply x_int | with_reducible apply x_tupT | with_reducible apply x_wSeq | with_reducible apply x_wT | with_reducible apply x_wR | with_reducible apply x_wRng1 | with_reducible apply x_wEnum | with_reducible apply x_dFld | with_reducible apply x_cut01 | with_reducible apply x_cut10 | with_reducible apply x_asI | with_reducible apply x_cutT | with_reducible apply x_iteT | with_reducible apply x_iteF | with_reducible apply x_max2 | with_reducible apply x_min2 | with_reducible apply x_bits | with_reducible refine x_var (by with_unfolding_all rfl) ?_ | with_reducible refine x_gName (by dsimp only [setE] <;> with_unfolding_all rfl) ?_ | with_reducible refine x_gnc (by dsimp only [setE] <;> with_unfolding_all rfl) ?_ | with_reducible refine x_len0 (by with_unfolding_all rfl) ?_ | with_reducible refine x_isiR (by with_unfolding_all exact True.intro) ?_ | with_reducible refine x_ixL (by assumption) (by with_unfolding_all rfl) ?_ | with_reducible refine x_ixT (by with_unfolding_all rfl) ?_ | with_reducible refine x_lenL (by assumption) ?_ | with_reducible refine x_gSubR (by assumption) (by with_unfolding_all rfl) ?_ | with_reducible refine x_lc (by dsimp only [wipeE, setE] <;> with_unfolding_all rfl) ?_))
      refine x_mod h0 ?_
      (repeat (first | with_reducible apply x_seq | with_reducible apply x_asg | with_reducible apply x_ret | with_reducible apply x_retN | with_reducible apply x_drop | with_reducible apply x_next | with_reducible apply x_break | with_reducible apply x_cont | with_reducible apply x_if | with_reducible apply x_par | with_reducible apply x_for | with_reducible apply x_c | with_reducible apply x_d1 | with_reducible apply x_d2 | with_reducible apply x_nil | with_reducible apply x_cons | with_reducible apply x_args | with_reducible apply x_call | with_reducible apply x_test | with_reducible apply x_asB | with_reducible apply x_andT | with_reducible apply x_orT | with_reducible apply x_notT | with_reducible apply x_andV | with_reducible apply x_orV | with_reducible apply x_notV | with_reducible apply x_ifE | with_reducible apply x_chain | with_reducible apply x_tup | with_reducible apply x_lst | with_reducible apply x_yes | with_reducible apply x_isi | with_reducible apply x_meth | with_reducible apply x_meth0 | with_reducible apply x_methLT | with_reducible apply x_methLTt | with_reducible apply x_gTup | with_reducible apply x_gWtup | with_reducible apply x_gnn | with_reducible apply x_gSub | with_reducible apply x_add | with_reducible apply x_sub | with_reducible apply x_neg | with_reducible apply x_lt | with_reducible apply x_le | with_reducible apply x_gt | with_reducible apply x_ge | with_reducible apply x_eq | with_reducible apply x_ne | with_reducible apply x_eqB | with_reducible apply x_neB | with_reducible apply x_is | with_reducible apply x_isNot | with_reducible apply x_lenT | with_reducible apply x_int | with_reducible apply x_tupT | with_reducible apply x_wSeq | with_reducible apply x_wT | with_reducible apply x_wR | with_reducible apply x_wRng1 | with_reducible apply x_wEnum | with_reducible apply x_dFld | with_reducible apply x_cut01 | with_reducible apply x_cut10 | with_reducible apply x_asI | with_reducible apply x_cutT | with_reducible apply x_iteT | with_reducible apply x_iteF | with_reducible apply x_max2 | with_reducible apply x_min2 | with_reducible apply x_bits | with_reducible refine x_var (by with_unfolding_all rfl) ?_ | with_reducible refine x_gName (by dsimp only [setE] <;> with_unfolding_all rfl) ?_ | with_reducible refine x_gnc (by dsimp only [setE] <;> with_unfolding_all rfl) ?_ | with_reducible refine x_len0 (by with_unfolding_all rfl) ?_ | with_reducible refine x_isiR (by with_unfolding_all exact True.intro) ?_ | with_reducible refine x_ixL (by assumption) (by with_unfolding_all rfl) ?_ | with_reducible refine x_ixT (by with_unfolding_all rfl) ?_ | with_reducible refine x_lenL (by assumption) ?_ | with_reducible refine x_gSubR (by assumption) (by with_unfolding_all rfl) ?_ | with_reducible refine x_lc (by dsimp only [wipeE, setE] <;> with_unfolding_all rfl) ?_))
      have hp : 0 < one := by omega
      have e : ((told : Int) % (one : Int)) = ((told % one : Nat) : Int) := by simp
      rw [e]
      refine ih (told % one) one (Nat.lt_of_lt_of_le (Nat.mod_lt _ hp) (by omega)) ?_
      have e2 : Nat.gcd one (told % one) = Nat.gcd told one := by
        rw [Nat.gcd_comm told one, Nat.gcd_rec one told, Nat.gcd_comm]
      rw [e2]; exact k
    · have hz : one = 0 := by omega
      subst hz
      rw [Nat.gcd_zero_right] at k
      exact k
theorem common_for {G : Sto → Prop} {nx bk ct : Ev → Sto → Prop} {rt : D → Sto → Prop} {ex : Ex → Ev → Sto → Prop} {μ : Sto} {row : Option D} (hG : G μ) :
    ∀ (ns : List Int) (g : Nat) (x y : Option D), (∀ n ∈ ns, 0 ≤ n) → (∀ x y, nx [row, some (.int (gcdL ns g : Nat)), x, y] μ) →
    forW G (gName 2) (sSeq (sAsg (dVar 2) (gName 3)) (sWhile (dTest (d2 uGt (dVar 3) (dC (.int 0)))) (sPar 3 1 (d2 uMod (dArgs aInt (dCons (dVar 1) (dNil))) (dVar 3)) (dVar 3)))) ⟨nx, rt, bk, ct, ex⟩ (ns.map D.int) [row, some (.int g), x, y] μ
  | [], g, x, y, _, k => ⟨hG, k x y⟩
  | n :: ns, g, x, y, h0, k => by
    rw [List.map_cons]
    refine x_fcons hG ?_
    (repeat (first | with_reducible apply x_seq | with_reducible apply x_asg | with_reducible apply x_ret | with_reducible apply x_retN | with_reducible apply x_drop | with_reducible apply x_next | with_reducible apply x_break | with_reducible apply x_cont | with_reducible apply x_if | with_reducible apply x_par | with_reducible apply x_for | with_reducible apply x_c | with_reducible apply x_d1 | with_reducible apply x_d2 | with_reducible apply x_nil | with_reducible apply x_cons | with_reducible apply x_args | with_reducible apply x_call | with_reducible apply x_test | with_reducible apply x_asB | with_reducible apply x_andT | with_reducible apply x_orT | with_reducible apply x_notT | with_reducible apply x_andV | with_reducible apply x_orV | with_reducible apply x_notV | with_reducible apply x_ifE | with_reducible apply x_chain | with_reducible apply x_tup | with_reducible apply x_lst | with_reducible apply x_yes | with_reducible apply x_isi | with_reducible apply x_meth | with_reducible apply x_meth0 | with_reducible apply x_methLT | with_reducible apply x_methLTt | with_reducible apply x_gTup | with_reducible apply x_gWtup | with_reducible apply x_gnn | with_reducible apply x_gSub | with_reducible apply x_add | with_reducible apply x_sub | with_reducible apply x_neg | with_reducible apply x_lt | with_reducible apply x_le | with_reducible apply x_gt | with_reducible apply x_ge | with_reducible apply x_eq | with_reducible apply x_ne | with_reducible apply x_eqB | with_reducible apply x_neB | with_reducible apply x_is | with_reducible apply x_isNot | with_reducible apply x_lenT | with_reducible apply x_int | with_reducible apply x_tupT | with_reducible apply x_wSeq | with_reducible apply x_wT | with_reducible apply x_wR | with_reducible apply x_wRng1 | with_reducible apply x_wEnum | with_reducible apply x_dFld | with_reducible apply x_cut01 | with_reducible apply x_cut10 | with_reducible apply x_asI | with_reducible apply x_cutT | with_reducible apply x_iteT | with_reducible apply x_iteF | with_reducible apply x_max2 | with_reducible apply x_min2 | with_reducible apply x_bits | with_reducible refine x_var (by with_unfolding_all rfl) ?_ | with_reducible refine x_gName (by dsimp only [setE] <;> with_unfolding_all rfl) ?_ | with_reducible refine x_gnc (by dsimp only [setE] <;> with_unfolding_all rfl) ?_ | with_reducible refine x_len0 (by with_unfolding_all rfl) ?_ | with_reducible refine x_isiR (by with_unfolding_all exact True.intro) ?_ | with_reducible refine x_ixL (by assumption) (by with_unfolding_all rfl) ?_ | with_reducible refine x_ixT (by with_unfolding_all rfl) ?_ | with_reducible refine x_lenL (by assumption) ?_ | with_reducible refine x_gSubR (by assumption) (by with_unfolding_all rfl) ?_ | with_reducible refine x_lc (by dsimp only [wipeE, setE] <;> with_unfolding_all rfl) ?_))
    have hn : 0 ≤ n := h0 n (List.mem_cons_self ..)
    obtain ⟨m, rfl⟩ := Int.eq_ofNat_of_zero_le hn
    refine x_while (m + 1) (common_while _ m g (Nat.lt_succ_self m) ?_)
    exact common_for hG ns _ _ _ (fun n hn => h0 n (List.mem_cons_of_mem _ hn)) k
/-- the greatest common part of numbers in a list or a tuple -/
theorem common_ok {row : D} {μ : Sto} {ns : List Int} {Q : QE} {E : QX} (e : seqOf row μ = some (ns.map D.int)) (hw : ∀ z, row ≠ .wtup z) (h0 : ∀ n ∈ ns, 0 ≤ n) (q : Q (.int (gcdL ns 0 : Nat)) μ) : prBody 1 3 commonB [row] μ Q E := by
  refine pr_mk rfl ?_
  unfold commonB
  show sSeq _ _ _ [some row, none, none, none] μ
  (repeat (first | with_reducible apply x_seq | with_reducible apply x_asg | with_reducible apply x_ret | with_reducible apply x_retN | with_reducible apply x_drop | with_reducible apply x_next | with_reducible apply x_break | with_reducible apply x_cont | with_reducible apply x_if | with_reducible apply x_par | with_reducible apply x_for | with_reducible apply x_c | with_reducible apply x_d1 | with_reducible apply x_d2 | with_reducible apply x_nil | with_reducible apply x_cons | with_reducible apply x_args | with_reducible apply x_call | with_reducible apply x_test | with_reducible apply x_asB | with_reducible apply x_andT | with_reducible apply x_orT | with_reducible apply x_notT | with_reducible apply x_andV | with_reducible apply x_orV | with_reducible apply x_notV | with_reducible apply x_ifE | with_reducible apply x_chain | with_reducible apply x_tup | with_reducible apply x_lst | with_reducible apply x_yes | with_reducible apply x_isi | with_reducible apply x_meth | with_reducible apply x_meth0 | with_reducible apply x_methLT | with_reducible apply x_methLTt | with_reducible apply x_gTup | with_reducible apply x_gWtup | with_reducible apply x_gnn | with_reducible apply x_gSub | with_reducible apply x_add | with_reducible apply x_sub | with_reducible apply x_neg | with_reducible apply x_lt | with_reducible apply x_le | with_reducible apply x_gt | with_reducible apply x_ge | with_reducible apply x_eq | with_reducible apply x_ne | with_reducible apply x_eqB | with_reducible apply x_neB | with_reducible apply x_is | with_reducible apply x_isNot | with_reducible apply x_lenT | with_reducible apply x_int | with_reducible apply x_tupT | with_reducible apply x_wSeq | with_reducible apply x_wT | with_reducible apply x_wR | with_reducible apply x_wRng1 | with_reducible apply x_wEnum | with_reducible apply x_dFld | with_reducible apply x_cut01 | with_reducible apply x_cut10 | with_reducible apply x_asI | with_reducible apply x_cutT | with_reducible apply x_iteT | with_reducible apply x_iteF | with_reducible apply x_max2 | with_reducible apply x_min2 | with_reducible apply x_bits | with_reducible refine x_var (by with_unfolding_all rfl) ?_ | with_reducible refine x_gName (by dsimp only [setE] <;> with_unfolding_all rfl) ?_ | with_reducible refine x_gnc (by dsimp only [setE] <;> with_unfolding_all rfl) ?_ | with_reducible refine x_len0 (by with_unfolding_all rfl) ?_ | with_reducible refine x_isiR (by with_unfolding_all exact True.intro) ?_ | with_reducible refine x_ixL (by assumption) (by with_unfolding_all rfl) ?_ | with_reducible refine x_ixT (by with_unfolding_all rfl) ?_ | with_reducible refine x_lenL (by assumption) ?_ | with_reducible refine x_gSubR (by assumption) (by with_unfolding_all rfl) ?_ | with_reducible refine x_lc (by dsimp only [wipeE, setE] <;> with_unfolding_all rfl) ?_))
  have z : ∀ {R : List D → (Sto → Prop) → Sto → Prop}, (∀ G : Sto → Prop, G μ → R (ns.map D.int) G μ) → seqW R row μ := fun {R} h => by
    cases row with
    | tup xs => have := Option.some.inj e; subst this; exact h _ trivial
    | rol xs => have := Option.some.inj e; subst this; exact h _ trivial
    | loc p => exact x_wL e (h _ e)
    | wtup xs => exact absurd rfl (hw _)
    | _ => cases e
  refine z fun G hG => ?_
  refine common_for hG ns 0 none none h0 fun x y => ?_
  (repeat (first | with_reducible apply x_seq | with_reducible apply x_asg | with_reducible apply x_ret | with_reducible apply x_retN | with_reducible apply x_drop | with_reducible apply x_next | with_reducible apply x_break | with_reducible apply x_cont | with_reducible apply x_if | with_reducible apply x_par | with_reducible apply x_for | with_reducible apply x_c | with_reducible apply x_d1 | with_reducible apply x_d2 | with_reducible apply x_nil | with_reducible apply x_cons | with_reducible apply x_args | with_reducible apply x_call | with_reducible apply x_test | with_reducible apply x_asB | with_reducible apply x_andT | with_reducible apply x_orT | with_reducible apply x_notT | with_reducible apply x_andV | with_reducible apply x_orV | with_reducible apply x_notV | with_reducible apply x_ifE | with_reducible apply x_chain | with_reducible apply x_tup | with_reducible apply x_lst | with_reducible apply x_yes | with_reducible apply x_isi | with_reducible apply x_meth | with_reducible apply x_meth0 | with_reducible apply x_methLT | with_reducible apply x_methLTt | with_reducible apply x_gTup | with_reducible apply x_gWtup | with_reducible apply x_gnn | with_reducible apply x_gSub | with_reducible apply x_add | with_reducible apply x_sub | with_reducible apply x_neg | with_reducible apply x_lt | with_reducible apply x_le | with_reducible apply x_gt | with_reducible apply x_ge | with_reducible apply x_eq | with_reducible apply x_ne | with_reducible apply x_eqB | with_reducible apply x_neB | with_reducible apply x_is | with_reducible apply x_isNot | with_reducible apply x_lenT | with_reducible apply x_int | with_reducible apply x_tupT | with_reducible apply x_wSeq | with_reducible apply x_wT | with_reducible apply x_wR | with_reducible apply x_wRng1 | with_reducible apply x_wEnum | with_reducible apply x_dFld | with_reducible apply x_cut01 | with_reducible apply x_cut10 | with_reducible apply x_asI | with_reducible apply x_cutT | with_reducible apply x_iteT | with_reducible apply x_iteF | with_reducible apply x_max2 | with_reducible apply x_min2 | with_reducible apply x_bits | with_reducible refine x_var (by with_unfolding_all rfl) ?_ | with_reducible refine x_gName (by dsimp only [setE] <;> with_unfolding_all rfl) ?_ | with_reducible refine x_gnc (by dsimp only [setE] <;> with_unfolding_all rfl) ?_ | with_reducible refine x_len0 (by with_unfolding_all rfl) ?_ | with_reducible refine x_isiR (by with_unfolding_all exact True.intro) ?_ | with_reducible refine x_ixL (by assumption) (by with_unfolding_all rfl) ?_ | with_reducible refine x_ixT (by with_unfolding_all rfl) ?_ | with_reducible refine x_lenL (by assumption) ?_ | with_reducible refine x_gSubR (by assumption) (by with_unfolding_all rfl) ?_ | with_reducible refine x_lc (by dsimp only [wipeE, setE] <;> with_unfolding_all rfl) ?_))
  exact q

/-! ### _law_purse -/
def purseB (w0 a c m m2 : Int) : DS := sSeq (sAsg (dC (.int w0)) (gName 1)) (sSeq (sAsg (dLst (dNil)) (gName 2)) (sSeq (sFor (wSeq (dCut (dVar 0) none (some (dC (.int 50))))) (gName 3) (sSeq (sAsg (d2 uMod (dArgs aAbs (dCons (dArgs aInt (dCons (dVar 3) (dNil))) (dNil))) (d2 uShl (dC (.int 1)) (dC (.int 2000)))) (gName 4)) (sSeq (sAsg (d2 uMod (dArgs aInt (dCons (d2 uAdd (d2 uAdd (d2 uMul (dVar 1) (dC (.int a))) (d2 uMod (dArgs aInt (dCons (dVar 4) (dNil))) (dC (.int m2)))) (dC (.int c))) (dNil))) (dC (.int m))) (gName 1)) (sIf (dTest (d2 uGe (dVar 4) (d2 uPow (dC (.int 10)) (dC (.int 18))))) (sDrop (dMeth .list mAppend (dVar 2) (dCons (dVar 4) dNil))) (sNext))))) (sRet (dLst (dCons (d1 uRev (dVar 2)) (dCons (dVar 1) (dCons (dC (.int 0)) (dNil))))))))
theorem cut_map (ns : List Int) (lo hi : Option Int) : ∃ ms : List Int, cutL (ns.map D.int) lo hi = ms.map D.int ∧ ms.length ≤ ns.length := by
  refine ⟨(ns.drop (cutIx ns.length 0 lo)).take (cutIx ns.length ns.length hi - cutIx ns.length 0 lo), ?_, ?_⟩
  · unfold cutL
    rw [List.length_map, ← List.map_drop, ← List.map_take]
  · rw [List.length_take, List.length_drop]; omega
theorem purse_for {a c m m2 : Int} {nx bk ct : Ev → Sto → Prop} {rt : D → Sto → Prop} {ex : Ex → Ev → Sto → Prop} {row : Option D} {l t : Nat} {all : List D} (hlt : t ≠ l) (ha : 0 ≤ a ∧ a < 2 ^ 31) (hc : 0 ≤ c) (hm : 0 < m ∧ m ≤ 2 ^ 31) (hm2 : 0 < m2)
    (k : ∀ (w : Int) (ds : List Int) (μ : Sto) x y, 0 ≤ w → w < 2 ^ 31 → (∀ d ∈ ds, 0 ≤ d) → lstAt μ l = some (ds.map D.int) → nx [row, some (.int w), some (.loc l), x, y] μ) :
    ∀ (ns : List Int) (w : Int) (ds : List Int) (μ : Sto) (x y : Option D), 0 ≤ w → w < 2 ^ 31 → (∀ d ∈ ds, 0 ≤ d) → ds.length + ns.length ≤ 1000 → lstAt μ l = some (ds.map D.int) → lstAt μ t = some all →
    forW (fun μ' => lstAt μ' t = some all) (gName 3) (sSeq (sAsg (d2 uMod (dArgs aAbs (dCons (dArgs aInt (dCons (dVar 3) (dNil))) (dNil))) (d2 uShl (dC (.int 1)) (dC (.int 2000)))) (gName 4)) (sSeq (sAsg (d2 uMod (dArgs aInt (dCons (d2 uAdd (d2 uAdd (d2 uMul (dVar 1) (dC (.int a))) (d2 uMod (dArgs aInt (dCons (dVar 4) (dNil))) (dC (.int m2)))) (dC (.int c))) (dNil))) (dC (.int m))) (gName 1)) (sIf (dTest (d2 uGe (dVar 4) (d2 uPow (dC (.int 10)) (dC (.int 18))))) (sDrop (dMeth .list mAppend (dVar 2) (dCons (dVar 4) dNil))) (sNext))))
      ⟨nx, rt, bk, ct, ex⟩ (ns.map D.int) [row, some (.int w), some (.loc l), x, y] μ
  | [], w, ds, μ, x, y, h1, h2, h3, _, e, e2 => ⟨e2, k w ds μ x y h1 h2 h3 e⟩
  | n :: ns, w, ds, μ, x, y, h1, h2, h3, h4, e, e2 => by
    rw [List.map_cons]
    rw [List.length_cons] at h4
    refine x_fcons e2 ?_
    (repeat (first | with_reducible apply x_seq | with_reducible apply x_asg | with_reducible apply x_ret | with_reducible apply x_retN | with_reducible apply x_drop | with_reducible apply x_next | with_reducible apply x_break | with_reducible apply x_cont | with_reducible apply x_if | with_reducible apply x_par | with_reducible apply x_for | with_reducible apply x_c | with_reducible apply x_d1 | with_reducible apply x_d2 | with_reducible apply x_nil | with_reducible apply x_cons | with_reducible apply x_args | with_reducible apply x_call | with_reducible apply x_test | with_reducible apply x_asB | with_reducible apply x_andT | with_reducible apply x_orT | with_reducible apply x_notT | with_reducible apply x_andV | with_reducible apply x_orV | with_reducible apply x_notV | with_reducible apply x_ifE | with_reducible apply x_chain | with_reducible apply x_tup | with_reducible apply x_lst | with_reducible apply x_yes | with_reducible apply x_isi | with_reducible apply x_meth | with_reducible apply x_meth0 | with_reducible apply x_methLT | with_reducible apply x_methLTt | with_reducible apply x_gTup | with_reducible apply x_gWtup | with_reducible apply x_gnn | with_reducible apply x_gSub | with_reducible apply x_add | with_reducible apply x_sub | with_reducible apply x_neg | with_reducible apply x_lt | with_reducible apply x_le | with_reducible apply x_gt | with_reducible apply x_ge | with_reducible apply x_eq | with_reducible apply x_ne | with_reducible apply x_eqB | with_reducible apply x_neB | with_reducible apply x_is | with_reducible apply x_isNot | with_reducible apply x_lenT | with_reducible apply x_int | with_reducible apply x_tupT | with_reducible apply x_wSeq | with_reducible apply x_wT | with_reducible apply x_wR | with_reducible apply x_wRng1 | with_reducible apply x_wEnum | with_reducible apply x_dFld | with_reducible apply x_cut01 | with_reducible apply x_cut10 | with_reducible apply x_asI | with_reducible apply x_cutT | with_reducible apply x_iteT | with_reducible apply x_iteF | with_reducible apply x_max2 | with_reducible apply x_min2 | with_reducible apply x_bits | with_reducible refine x_var (by with_unfolding_all rfl) ?_ | with_reducible refine x_gName (by dsimp only [setE] <;> with_unfolding_all rfl) ?_ | with_reducible refine x_gnc (by dsimp only [setE] <;> with_unfolding_all rfl) ?_ | with_reducible refine x_len0 (by with_unfolding_all rfl) ?_ | with_reducible refine x_isiR (by with_unfolding_all exact True.intro) ?_ | with_reducible refine x_ixL (by assumption) (by with_unfolding_all rfl) ?_ | with_reducible refine x_ixT (by with_unfolding_all rfl) ?_ | with_reducible refine x_lenL (by assumption) ?_ | with_reducible refine x_gSubR (by assumption) (by with_unfolding_all rfl) ?_ | with_reducible refine x_lc (by dsimp only [wipeE, setE] <;> with_unfolding_all rfl) ?_))
    refine x_abs ?_
    (repeat (first | with_reducible apply x_seq | with_reducible apply x_asg | with_reducible apply x_ret | with_reducible apply x_retN | with_reducible apply x_drop | with_reducible apply x_next | with_reducible apply x_break | with_reducible apply x_cont | with_reducible apply x_if | with_reducible apply x_par | with_reducible apply x_for | with_reducible apply x_c | with_reducible apply x_d1 | with_reducible apply x_d2 | with_reducible apply x_nil | with_reducible apply x_cons | with_reducible apply x_args | with_reducible apply x_call | with_reducible apply x_test | with_reducible apply x_asB | with_reducible apply x_andT | with_reducible apply x_orT | with_reducible apply x_notT | with_reducible apply x_andV | with_reducible apply x_orV | with_reducible apply x_notV | with_reducible apply x_ifE | with_reducible apply x_chain | with_reducible apply x_tup | with_reducible apply x_lst | with_reducible apply x_yes | with_reducible apply x_isi | with_reducible apply x_meth | with_reducible apply x_meth0 | with_reducible apply x_methLT | with_reducible apply x_methLTt | with_reducible apply x_gTup | with_reducible apply x_gWtup | with_reducible apply x_gnn | with_reducible apply x_gSub | with_reducible apply x_add | with_reducible apply x_sub | with_reducible apply x_neg | with_reducible apply x_lt | with_reducible apply x_le | with_reducible apply x_gt | with_reducible apply x_ge | with_reducible apply x_eq | with_reducible apply x_ne | with_reducible apply x_eqB | with_reducible apply x_neB | with_reducible apply x_is | with_reducible apply x_isNot | with_reducible apply x_lenT | with_reducible apply x_int | with_reducible apply x_tupT | with_reducible apply x_wSeq | with_reducible apply x_wT | with_reducible apply x_wR | with_reducible apply x_wRng1 | with_reducible apply x_wEnum | with_reducible apply x_dFld | with_reducible apply x_cut01 | with_reducible apply x_cut10 | with_reducible apply x_asI | with_reducible apply x_cutT | with_reducible apply x_iteT | with_reducible apply x_iteF | with_reducible apply x_max2 | with_reducible apply x_min2 | with_reducible apply x_bits | with_reducible refine x_var (by with_unfolding_all rfl) ?_ | with_reducible refine x_gName (by dsimp only [setE] <;> with_unfolding_all rfl) ?_ | with_reducible refine x_gnc (by dsimp only [setE] <;> with_unfolding_all rfl) ?_ | with_reducible refine x_len0 (by with_unfolding_all rfl) ?_ | with_reducible refine x_isiR (by with_unfolding_all exact True.intro) ?_ | with_reducible refine x_ixL (by assumption) (by with_unfolding_all rfl) ?_ | with_reducible refine x_ixT (by with_unfolding_all rfl) ?_ | with_reducible refine x_lenL (by assumption) ?_ | with_reducible refine x_gSubR (by assumption) (by with_unfolding_all rfl) ?_ | with_reducible refine x_lc (by dsimp only [wipeE, setE] <;> with_unfolding_all rfl) ?_))
    refine x_shl ⟨by decide, by decide, by decide⟩ ?_
    refine x_mod (by decide) ?_
    (repeat (first | with_reducible apply x_seq | with_reducible apply x_asg | with_reducible apply x_ret | with_reducible apply x_retN | with_reducible apply x_drop | with_reducible apply x_next | with_reducible apply x_break | with_reducible apply x_cont | with_reducible apply x_if | with_reducible apply x_par | with_reducible apply x_for | with_reducible apply x_c | with_reducible apply x_d1 | with_reducible apply x_d2 | with_reducible apply x_nil | with_reducible apply x_cons | with_reducible apply x_args | with_reducible apply x_call | with_reducible apply x_test | with_reducible apply x_asB | with_reducible apply x_andT | with_reducible apply x_orT | with_reducible apply x_notT | with_reducible apply x_andV | with_reducible apply x_orV | with_reducible apply x_notV | with_reducible apply x_ifE | with_reducible apply x_chain | with_reducible apply x_tup | with_reducible apply x_lst | with_reducible apply x_yes | with_reducible apply x_isi | with_reducible apply x_meth | with_reducible apply x_meth0 | with_reducible apply x_methLT | with_reducible apply x_methLTt | with_reducible apply x_gTup | with_reducible apply x_gWtup | with_reducible apply x_gnn | with_reducible apply x_gSub | with_reducible apply x_add | with_reducible apply x_sub | with_reducible apply x_neg | with_reducible apply x_lt | with_reducible apply x_le | with_reducible apply x_gt | with_reducible apply x_ge | with_reducible apply x_eq | with_reducible apply x_ne | with_reducible apply x_eqB | with_reducible apply x_neB | with_reducible apply x_is | with_reducible apply x_isNot | with_reducible apply x_lenT | with_reducible apply x_int | with_reducible apply x_tupT | with_reducible apply x_wSeq | with_reducible apply x_wT | with_reducible apply x_wR | with_reducible apply x_wRng1 | with_reducible apply x_wEnum | with_reducible apply x_dFld | with_reducible apply x_cut01 | with_reducible apply x_cut10 | with_reducible apply x_asI | with_reducible apply x_cutT | with_reducible apply x_iteT | with_reducible apply x_iteF | with_reducible apply x_max2 | with_reducible apply x_min2 | with_reducible apply x_bits | with_reducible refine x_var (by with_unfolding_all rfl) ?_ | with_reducible refine x_gName (by dsimp only [setE] <;> with_unfolding_all rfl) ?_ | with_reducible refine x_gnc (by dsimp only [setE] <;> with_unfolding_all rfl) ?_ | with_reducible refine x_len0 (by with_unfolding_all rfl) ?_ | with_reducible refine x_isiR (by with_unfolding_all exact True.intro) ?_ | with_reducible refine x_ixL (by assumption) (by with_unfolding_all rfl) ?_ | with_reducible refine x_ixT (by with_unfolding_all rfl) ?_ | with_reducible refine x_lenL (by assumption) ?_ | with_reducible refine x_gSubR (by assumption) (by with_unfolding_all rfl) ?_ | with_reducible refine x_lc (by dsimp only [wipeE, setE] <;> with_unfolding_all rfl) ?_))
    refine x_mul (mul_ok 31 31 h1 h2 ha.1 ha.2 (by decide)) ?_
    (repeat (first | with_reducible apply x_seq | with_reducible apply x_asg | with_reducible apply x_ret | with_reducible apply x_retN | with_reducible apply x_drop | with_reducible apply x_next | with_reducible apply x_break | with_reducible apply x_cont | with_reducible apply x_if | with_reducible apply x_par | with_reducible apply x_for | with_reducible apply x_c | with_reducible apply x_d1 | with_reducible apply x_d2 | with_reducible apply x_nil | with_reducible apply x_cons | with_reducible apply x_args | with_reducible apply x_call | with_reducible apply x_test | with_reducible apply x_asB | with_reducible apply x_andT | with_reducible apply x_orT | with_reducible apply x_notT | with_reducible apply x_andV | with_reducible apply x_orV | with_reducible apply x_notV | with_reducible apply x_ifE | with_reducible apply x_chain | with_reducible apply x_tup | with_reducible apply x_lst | with_reducible apply x_yes | with_reducible apply x_isi | with_reducible apply x_meth | with_reducible apply x_meth0 | with_reducible apply x_methLT | with_reducible apply x_methLTt | with_reducible apply x_gTup | with_reducible apply x_gWtup | with_reducible apply x_gnn | with_reducible apply x_gSub | with_reducible apply x_add | with_reducible apply x_sub | with_reducible apply x_neg | with_reducible apply x_lt | with_reducible apply x_le | with_reducible apply x_gt | with_reducible apply x_ge | with_reducible apply x_eq | with_reducible apply x_ne | with_reducible apply x_eqB | with_reducible apply x_neB | with_reducible apply x_is | with_reducible apply x_isNot | with_reducible apply x_lenT | with_reducible apply x_int | with_reducible apply x_tupT | with_reducible apply x_wSeq | with_reducible apply x_wT | with_reducible apply x_wR | with_reducible apply x_wRng1 | with_reducible apply x_wEnum | with_reducible apply x_dFld | with_reducible apply x_cut01 | with_reducible apply x_cut10 | with_reducible apply x_asI | with_reducible apply x_cutT | with_reducible apply x_iteT | with_reducible apply x_iteF | with_reducible apply x_max2 | with_reducible apply x_min2 | with_reducible apply x_bits | with_reducible refine x_var (by with_unfolding_all rfl) ?_ | with_reducible refine x_gName (by dsimp only [setE] <;> with_unfolding_all rfl) ?_ | with_reducible refine x_gnc (by dsimp only [setE] <;> with_unfolding_all rfl) ?_ | with_reducible refine x_len0 (by with_unfolding_all rfl) ?_ | with_reducible refine x_isiR (by with_unfolding_all exact True.intro) ?_ | with_reducible refine x_ixL (by assumption) (by with_unfolding_all rfl) ?_ | with_reducible refine x_ixT (by with_unfolding_all rfl) ?_ | with_reducible refine x_lenL (by assumption) ?_ | with_reducible refine x_gSubR (by assumption) (by with_unfolding_all rfl) ?_ | with_reducible refine x_lc (by dsimp only [wipeE, setE] <;> with_unfolding_all rfl) ?_))
    refine x_mod hm2 ?_
    (repeat (first | with_reducible apply x_seq | with_reducible apply x_asg | with_reducible apply x_ret | with_reducible apply x_retN | with_reducible apply x_drop | with_reducible apply x_next | with_reducible apply x_break | with_reducible apply x_cont | with_reducible apply x_if | with_reducible apply x_par | with_reducible apply x_for | with_reducible apply x_c | with_reducible apply x_d1 | with_reducible apply x_d2 | with_reducible apply x_nil | with_reducible apply x_cons | with_reducible apply x_args | with_reducible apply x_call | with_reducible apply x_test | with_reducible apply x_asB | with_reducible apply x_andT | with_reducible apply x_orT | with_reducible apply x_notT | with_reducible apply x_andV | with_reducible apply x_orV | with_reducible apply x_notV | with_reducible apply x_ifE | with_reducible apply x_chain | with_reducible apply x_tup | with_reducible apply x_lst | with_reducible apply x_yes | with_reducible apply x_isi | with_reducible apply x_meth | with_reducible apply x_meth0 | with_reducible apply x_methLT | with_reducible apply x_methLTt | with_reducible apply x_gTup | with_reducible apply x_gWtup | with_reducible apply x_gnn | with_reducible apply x_gSub | with_reducible apply x_add | with_reducible apply x_sub | with_reducible apply x_neg | with_reducible apply x_lt | with_reducible apply x_le | with_reducible apply x_gt | with_reducible apply x_ge | with_reducible apply x_eq | with_reducible apply x_ne | with_reducible apply x_eqB | with_reducible apply x_neB | with_reducible apply x_is | with_reducible apply x_isNot | with_reducible apply x_lenT | with_reducible apply x_int | with_reducible apply x_tupT | with_reducible apply x_wSeq | with_reducible apply x_wT | with_reducible apply x_wR | with_reducible apply x_wRng1 | with_reducible apply x_wEnum | with_reducible apply x_dFld | with_reducible apply x_cut01 | with_reducible apply x_cut10 | with_reducible apply x_asI | with_reducible apply x_cutT | with_reducible apply x_iteT | with_reducible apply x_iteF | with_reducible apply x_max2 | with_reducible apply x_min2 | with_reducible apply x_bits | with_reducible refine x_var (by with_unfolding_all rfl) ?_ | with_reducible refine x_gName (by dsimp only [setE] <;> with_unfolding_all rfl) ?_ | with_reducible refine x_gnc (by dsimp only [setE] <;> with_unfolding_all rfl) ?_ | with_reducible refine x_len0 (by with_unfolding_all rfl) ?_ | with_reducible refine x_isiR (by with_unfolding_all exact True.intro) ?_ | with_reducible refine x_ixL (by assumption) (by with_unfolding_all rfl) ?_ | with_reducible refine x_ixT (by with_unfolding_all rfl) ?_ | with_reducible refine x_lenL (by assumption) ?_ | with_reducible refine x_gSubR (by assumption) (by with_unfolding_all rfl) ?_ | with_reducible refine x_lc (by dsimp only [wipeE, setE] <;> with_unfolding_all rfl) ?_))
    refine x_mod hm.1 ?_
    (repeat (first | with_reducible apply x_seq | with_reducible apply x_asg | with_reducible apply x_ret | with_reducible apply x_retN | with_reducible apply x_drop | with_reducible apply x_next | with_reducible apply x_break | with_reducible apply x_cont | with_reducible apply x_if | with_reducible apply x_par | with_reducible apply x_for | with_reducible apply x_c | with_reducible apply x_d1 | with_reducible apply x_d2 | with_reducible apply x_nil | with_reducible apply x_cons | with_reducible apply x_args | with_reducible apply x_call | with_reducible apply x_test | with_reducible apply x_asB | with_reducible apply x_andT | with_reducible apply x_orT | with_reducible apply x_notT | with_reducible apply x_andV | with_reducible apply x_orV | with_reducible apply x_notV | with_reducible apply x_ifE | with_reducible apply x_chain | with_reducible apply x_tup | with_reducible apply x_lst | with_reducible apply x_yes | with_reducible apply x_isi | with_reducible apply x_meth | with_reducible apply x_meth0 | with_reducible apply x_methLT | with_reducible apply x_methLTt | with_reducible apply x_gTup | with_reducible apply x_gWtup | with_reducible apply x_gnn | with_reducible apply x_gSub | with_reducible apply x_add | with_reducible apply x_sub | with_reducible apply x_neg | with_reducible apply x_lt | with_reducible apply x_le | with_reducible apply x_gt | with_reducible apply x_ge | with_reducible apply x_eq | with_reducible apply x_ne | with_reducible apply x_eqB | with_reducible apply x_neB | with_reducible apply x_is | with_reducible apply x_isNot | with_reducible apply x_lenT | with_reducible apply x_int | with_reducible apply x_tupT | with_reducible apply x_wSeq | with_reducible apply x_wT | with_reducible apply x_wR | with_reducible apply x_wRng1 | with_reducible apply x_wEnum | with_reducible apply x_dFld | with_reducible apply x_cut01 | with_reducible apply x_cut10 | with_reducible apply x_asI | with_reducible apply x_cutT | with_reducible apply x_iteT | with_reducible apply x_iteF | with_reducible apply x_max2 | with_reducible apply x_min2 | with_reducible apply x_bits | with_reducible refine x_var (by with_unfolding_all rfl) ?_ | with_reducible refine x_gName (by dsimp only [setE] <;> with_unfolding_all rfl) ?_ | with_reducible refine x_gnc (by dsimp only [setE] <;> with_unfolding_all rfl) ?_ | with_reducible refine x_len0 (by with_unfolding_all rfl) ?_ | with_reducible refine x_isiR (by with_unfolding_all exact True.intro) ?_ | with_reducible refine x_ixL (by assumption) (by with_unfolding_all rfl) ?_ | with_reducible refine x_ixT (by with_unfolding_all rfl) ?_ | with_reducible refine x_lenL (by assumption) ?_ | with_reducible refine x_gSubR (by assumption) (by with_unfolding_all rfl) ?_ | with_reducible refine x_lc (by dsimp only [wipeE, setE] <;> with_unfolding_all rfl) ?_))
    refine x_pow ⟨by decide, by decide, by decide⟩ ?_
    generalize hc1 : (if n < 0 then -n else n) % (1 * 2 ^ Int.toNat 2000) = cell
    have hcell : 0 ≤ cell := by
      rw [← hc1]
      exact Int.emod_nonneg _ (by decide)
    generalize hw1 : (w * a + cell % m2 + c) % m = w1
    have hw10 : 0 ≤ w1 := by rw [← hw1]; exact Int.emod_nonneg _ (by omega)
    have hw11 : w1 < m := by rw [← hw1]; exact Int.emod_lt_of_pos _ hm.1
    (repeat (first | with_reducible apply x_seq | with_reducible apply x_asg | with_reducible apply x_ret | with_reducible apply x_retN | with_reducible apply x_drop | with_reducible apply x_next | with_reducible apply x_break | with_reducible apply x_cont | with_reducible apply x_if | with_reducible apply x_par | with_reducible apply x_for | with_reducible apply x_c | with_reducible apply x_d1 | with_reducible apply x_d2 | with_reducible apply x_nil | with_reducible apply x_cons | with_reducible apply x_args | with_reducible apply x_call | with_reducible apply x_test | with_reducible apply x_asB | with_reducible apply x_andT | with_reducible apply x_orT | with_reducible apply x_notT | with_reducible apply x_andV | with_reducible apply x_orV | with_reducible apply x_notV | with_reducible apply x_ifE | with_reducible apply x_chain | with_reducible apply x_tup | with_reducible apply x_lst | with_reducible apply x_yes | with_reducible apply x_isi | with_reducible apply x_meth | with_reducible apply x_meth0 | with_reducible apply x_methLT | with_reducible apply x_methLTt | with_reducible apply x_gTup | with_reducible apply x_gWtup | with_reducible apply x_gnn | with_reducible apply x_gSub | with_reducible apply x_add | with_reducible apply x_sub | with_reducible apply x_neg | with_reducible apply x_lt | with_reducible apply x_le | with_reducible apply x_gt | with_reducible apply x_ge | with_reducible apply x_eq | with_reducible apply x_ne | with_reducible apply x_eqB | with_reducible apply x_neB | with_reducible apply x_is | with_reducible apply x_isNot | with_reducible apply x_lenT | with_reducible apply x_int | with_reducible apply x_tupT | with_reducible apply x_wSeq | with_reducible apply x_wT | with_reducible apply x_wR | with_reducible apply x_wRng1 | with_reducible apply x_wEnum | with_reducible apply x_dFld | with_reducible apply x_cut01 | with_reducible apply x_cut10 | with_reducible apply x_asI | with_reducible apply x_cutT | with_reducible apply x_iteT | with_reducible apply x_iteF | with_reducible apply x_max2 | with_reducible apply x_min2 | with_reducible apply x_bits | with_reducible refine x_var (by with_unfolding_all rfl) ?_ | with_reducible refine x_gName (by dsimp only [setE] <;> with_unfolding_all rfl) ?_ | with_reducible refine x_gnc (by dsimp only [setE] <;> with_unfolding_all rfl) ?_ | with_reducible refine x_len0 (by with_unfolding_all rfl) ?_ | with_reducible refine x_isiR (by with_unfolding_all exact True.intro) ?_ | with_reducible refine x_ixL (by assumption) (by with_unfolding_all rfl) ?_ | with_reducible refine x_ixT (by with_unfolding_all rfl) ?_ | with_reducible refine x_lenL (by assumption) ?_ | with_reducible refine x_gSubR (by assumption) (by with_unfolding_all rfl) ?_ | with_reducible refine x_lc (by dsimp only [wipeE, setE] <;> with_unfolding_all rfl) ?_))
    refine x_ite (fun h5 => ?_) (fun h5 => ?_)
    · (repeat (first | with_reducible apply x_seq | with_reducible apply x_asg | with_reducible apply x_ret | with_reducible apply x_retN | with_reducible apply x_drop | with_reducible apply x_next | with_reducible apply x_break | with_reducible apply x_cont | with_reducible apply x_if | with_reducible apply x_par | with_reducible apply x_for | with_reducible apply x_c | with_reducible apply x_d1 | with_reducible apply x_d2 | with_reducible apply x_nil | with_reducible apply x_cons | with_reducible apply x_args | with_reducible apply x_call | with_reducible apply x_test | with_reducible apply x_asB | with_reducible apply x_andT | with_reducible apply x_orT | with_reducible apply x_notT | with_reducible apply x_andV | with_reducible apply x_orV | with_reducible apply x_notV | with_reducible apply x_ifE | with_reducible apply x_chain | with_reducible apply x_tup | with_reducible apply x_lst | with_reducible apply x_yes | with_reducible apply x_isi | with_reducible apply x_meth | with_reducible apply x_meth0 | with_reducible apply x_methLT | with_reducible apply x_methLTt | with_reducible apply x_gTup | with_reducible apply x_gWtup | with_reducible apply x_gnn | with_reducible apply x_gSub | with_reducible apply x_add | with_reducible apply x_sub | with_reducible apply x_neg | with_reducible apply x_lt | with_reducible apply x_le | with_reducible apply x_gt | with_reducible apply x_ge | with_reducible apply x_eq | with_reducible apply x_ne | with_reducible apply x_eqB | with_reducible apply x_neB | with_reducible apply x_is | with_reducible apply x_isNot | with_reducible apply x_lenT | with_reducible apply x_int | with_reducible apply x_tupT | with_reducible apply x_wSeq | with_reducible apply x_wT | with_reducible apply x_wR | with_reducible apply x_wRng1 | with_reducible apply x_wEnum | with_reducible apply x_dFld | with_reducible apply x_cut01 | with_reducible apply x_cut10 | with_reducible apply x_asI | with_reducible apply x_cutT | with_reducible apply x_iteT | with_reducible apply x_iteF | with_reducible apply x_max2 | with_reducible apply x_min2 | with_reducible apply x_bits | with_reducible refine x_var (by with_unfolding_all rfl) ?_ | with_reducible refine x_gName (by dsimp only [setE] <;> with_unfolding_all rfl) ?_ | with_reducible refine x_gnc (by dsimp only [setE] <;> with_unfolding_all rfl) ?_ | with_reducible refine x_len0 (by with_unfolding_all rfl) ?_ | with_reducible refine x_isiR (by with_unfolding_all exact True.intro) ?_ | with_reducible refine x_ixL (by assumption) (by with_unfolding_all rfl) ?_ | with_reducible refine x_ixT (by with_unfolding_all rfl) ?_ | with_reducible refine x_lenL (by assumption) ?_ | with_reducible refine x_gSubR (by assumption) (by with_unfolding_all rfl) ?_ | with_reducible refine x_lc (by dsimp only [wipeE, setE] <;> with_unfolding_all rfl) ?_))
      refine x_methL e ?_
      (repeat (first | with_reducible apply x_seq | with_reducible apply x_asg | with_reducible apply x_ret | with_reducible apply x_retN | with_reducible apply x_drop | with_reducible apply x_next | with_reducible apply x_break | with_reducible apply x_cont | with_reducible apply x_if | with_reducible apply x_par | with_reducible apply x_for | with_reducible apply x_c | with_reducible apply x_d1 | with_reducible apply x_d2 | with_reducible apply x_nil | with_reducible apply x_cons | with_reducible apply x_args | with_reducible apply x_call | with_reducible apply x_test | with_reducible apply x_asB | with_reducible apply x_andT | with_reducible apply x_orT | with_reducible apply x_notT | with_reducible apply x_andV | with_reducible apply x_orV | with_reducible apply x_notV | with_reducible apply x_ifE | with_reducible apply x_chain | with_reducible apply x_tup | with_reducible apply x_lst | with_reducible apply x_yes | with_reducible apply x_isi | with_reducible apply x_meth | with_reducible apply x_meth0 | with_reducible apply x_methLT | with_reducible apply x_methLTt | with_reducible apply x_gTup | with_reducible apply x_gWtup | with_reducible apply x_gnn | with_reducible apply x_gSub | with_reducible apply x_add | with_reducible apply x_sub | with_reducible apply x_neg | with_reducible apply x_lt | with_reducible apply x_le | with_reducible apply x_gt | with_reducible apply x_ge | with_reducible apply x_eq | with_reducible apply x_ne | with_reducible apply x_eqB | with_reducible apply x_neB | with_reducible apply x_is | with_reducible apply x_isNot | with_reducible apply x_lenT | with_reducible apply x_int | with_reducible apply x_tupT | with_reducible apply x_wSeq | with_reducible apply x_wT | with_reducible apply x_wR | with_reducible apply x_wRng1 | with_reducible apply x_wEnum | with_reducible apply x_dFld | with_reducible apply x_cut01 | with_reducible apply x_cut10 | with_reducible apply x_asI | with_reducible apply x_cutT | with_reducible apply x_iteT | with_reducible apply x_iteF | with_reducible apply x_max2 | with_reducible apply x_min2 | with_reducible apply x_bits | with_reducible refine x_var (by with_unfolding_all rfl) ?_ | with_reducible refine x_gName (by dsimp only [setE] <;> with_unfolding_all rfl) ?_ | with_reducible refine x_gnc (by dsimp only [setE] <;> with_unfolding_all rfl) ?_ | with_reducible refine x_len0 (by with_unfolding_all rfl) ?_ | with_reducible refine x_isiR (by with_unfolding_all exact True.intro) ?_ | with_reducible refine x_ixL (by assumption) (by with_unfolding_all rfl) ?_ | with_reducible refine x_ixT (by with_unfolding_all rfl) ?_ | with_reducible refine x_lenL (by assumption) ?_ | with_reducible refine x_gSubR (by assumption) (by with_unfolding_all rfl) ?_ | with_reducible refine x_lc (by dsimp only [wipeE, setE] <;> with_unfolding_all rfl) ?_))
      refine x_app e (by rw [List.length_map]; unfold LINE; omega) ?_
      have ea : ds.map D.int ++ [D.int cell] = (ds ++ [cell]).map D.int := by simp
      rw [ea]
      refine purse_for hlt ha hc hm hm2 k ns w1 (ds ++ [cell]) _ _ _ hw10 (by omega) (fun d hd => ?_) (by rw [List.length_append, List.length_singleton]; omega) lstAt_put (by rw [lstAt_ne hlt]; exact e2)
      rcases List.mem_append.mp hd with z | z
      · exact h3 d z
      · have : d = cell := by simpa using z
        rw [this]; exact hcell
    · (repeat (first | with_reducible apply x_seq | with_reducible apply x_asg | with_reducible apply x_ret | with_reducible apply x_retN | with_reducible apply x_drop | with_reducible apply x_next | with_reducible apply x_break | with_reducible apply x_cont | with_reducible apply x_if | with_reducible apply x_par | with_reducible apply x_for | with_reducible apply x_c | with_reducible apply x_d1 | with_reducible apply x_d2 | with_reducible apply x_nil | with_reducible apply x_cons | with_reducible apply x_args | with_reducible apply x_call | with_reducible apply x_test | with_reducible apply x_asB | with_reducible apply x_andT | with_reducible apply x_orT | with_reducible apply x_notT | with_reducible apply x_andV | with_reducible apply x_orV | with_reducible apply x_notV | with_reducible apply x_ifE | with_reducible apply x_chain | with_reducible apply x_tup | with_reducible apply x_lst | with_reducible apply x_yes | with_reducible apply x_isi | with_reducible apply x_meth | with_reducible apply x_meth0 | with_reducible apply x_methLT | with_reducible apply x_methLTt | with_reducible apply x_gTup | with_reducible apply x_gWtup | with_reducible apply x_gnn | with_reducible apply x_gSub | with_reducible apply x_add | with_reducible apply x_sub | with_reducible apply x_neg | with_reducible apply x_lt | with_reducible apply x_le | with_reducible apply x_gt | with_reducible apply x_ge | with_reducible apply x_eq | with_reducible apply x_ne | with_reducible apply x_eqB | with_reducible apply x_neB | with_reducible apply x_is | with_reducible apply x_isNot | with_reducible apply x_lenT | with_reducible apply x_int | with_reducible apply x_tupT | with_reducible apply x_wSeq | with_reducible apply x_wT | with_reducible apply x_wR | with_reducible apply x_wRng1 | with_reducible apply x_wEnum | with_reducible apply x_dFld | with_reducible apply x_cut01 | with_reducible apply x_cut10 | with_reducible apply x_asI | with_reducible apply x_cutT | with_reducible apply x_iteT | with_reducible apply x_iteF | with_reducible apply x_max2 | with_reducible apply x_min2 | with_reducible apply x_bits | with_reducible refine x_var (by with_unfolding_all rfl) ?_ | with_reducible refine x_gName (by dsimp only [setE] <;> with_unfolding_all rfl) ?_ | with_reducible refine x_gnc (by dsimp only [setE] <;> with_unfolding_all rfl) ?_ | with_reducible refine x_len0 (by with_unfolding_all rfl) ?_ | with_reducible refine x_isiR (by with_unfolding_all exact True.intro) ?_ | with_reducible refine x_ixL (by assumption) (by with_unfolding_all rfl) ?_ | with_reducible refine x_ixT (by with_unfolding_all rfl) ?_ | with_reducible refine x_lenL (by assumption) ?_ | with_reducible refine x_gSubR (by assumption) (by with_unfolding_all rfl) ?_ | with_reducible refine x_lc (by dsimp only [wipeE, setE] <;> with_unfolding_all rfl) ?_))
      exact purse_for hlt ha hc hm hm2 k ns w1 ds μ _ _ hw10 (by omega) h3 (by omega) e e2
theorem purse_ok {w0 a c m m2 : Int} {ns : List Int} {μ : Sto} {Q : QE} {E : QX} (hw : 0 ≤ w0 ∧ w0 < 2 ^ 31) (ha : 0 ≤ a ∧ a < 2 ^ 31) (hc : 0 ≤ c) (hm : 0 < m ∧ m ≤ 2 ^ 31) (hm2 : 0 < m2) (hn : ns.length ≤ 63)
    (q : ∀ p q' μ', Pu p q' μ' → Q (.loc p) μ') : prBody 1 4 (purseB w0 a c m m2) [.rol (ns.map D.int)] μ Q E := by
  refine pr_mk rfl ?_
  unfold purseB
  show sSeq _ _ _ [some (.rol (ns.map D.int)), none, none, none, none] μ
  (repeat (first | with_reducible apply x_seq | with_reducible apply x_asg | with_reducible apply x_ret | with_reducible apply x_retN | with_reducible apply x_drop | with_reducible apply x_next | with_reducible apply x_break | with_reducible apply x_cont | with_reducible apply x_if | with_reducible apply x_par | with_reducible apply x_for | with_reducible apply x_c | with_reducible apply x_d1 | with_reducible apply x_d2 | with_reducible apply x_nil | with_reducible apply x_cons | with_reducible apply x_args | with_reducible apply x_call | with_reducible apply x_test | with_reducible apply x_asB | with_reducible apply x_andT | with_reducible apply x_orT | with_reducible apply x_notT | with_reducible apply x_andV | with_reducible apply x_orV | with_reducible apply x_notV | with_reducible apply x_ifE | with_reducible apply x_chain | with_reducible apply x_tup | with_reducible apply x_lst | with_reducible apply x_yes | with_reducible apply x_isi | with_reducible apply x_meth | with_reducible apply x_meth0 | with_reducible apply x_methLT | with_reducible apply x_methLTt | with_reducible apply x_gTup | with_reducible apply x_gWtup | with_reducible apply x_gnn | with_reducible apply x_gSub | with_reducible apply x_add | with_reducible apply x_sub | with_reducible apply x_neg | with_reducible apply x_lt | with_reducible apply x_le | with_reducible apply x_gt | with_reducible apply x_ge | with_reducible apply x_eq | with_reducible apply x_ne | with_reducible apply x_eqB | with_reducible apply x_neB | with_reducible apply x_is | with_reducible apply x_isNot | with_reducible apply x_lenT | with_reducible apply x_int | with_reducible apply x_tupT | with_reducible apply x_wSeq | with_reducible apply x_wT | with_reducible apply x_wR | with_reducible apply x_wRng1 | with_reducible apply x_wEnum | with_reducible apply x_dFld | with_reducible apply x_cut01 | with_reducible apply x_cut10 | with_reducible apply x_asI | with_reducible apply x_cutT | with_reducible apply x_iteT | with_reducible apply x_iteF | with_reducible apply x_max2 | with_reducible apply x_min2 | with_reducible apply x_bits | with_reducible refine x_var (by with_unfolding_all rfl) ?_ | with_reducible refine x_gName (by dsimp only [setE] <;> with_unfolding_all rfl) ?_ | with_reducible refine x_gnc (by dsimp only [setE] <;> with_unfolding_all rfl) ?_ | with_reducible refine x_len0 (by with_unfolding_all rfl) ?_ | with_reducible refine x_isiR (by with_unfolding_all exact True.intro) ?_ | with_reducible refine x_ixL (by assumption) (by with_unfolding_all rfl) ?_ | with_reducible refine x_ixT (by with_unfolding_all rfl) ?_ | with_reducible refine x_lenL (by assumption) ?_ | with_reducible refine x_gSubR (by assumption) (by with_unfolding_all rfl) ?_ | with_reducible refine x_lc (by dsimp only [wipeE, setE] <;> with_unfolding_all rfl) ?_))
  intro l hl
  (repeat (first | with_reducible apply x_seq | with_reducible apply x_asg | with_reducible apply x_ret | with_reducible apply x_retN | with_reducible apply x_drop | with_reducible apply x_next | with_reducible apply x_break | with_reducible apply x_cont | with_reducible apply x_if | with_reducible apply x_par | with_reducible apply x_for | with_reducible apply x_c | with_reducible apply x_d1 | with_reducible apply x_d2 | with_reducible apply x_nil | with_reducible apply x_cons | with_reducible apply x_args | with_reducible apply x_call | with_reducible apply x_test | with_reducible apply x_asB | with_reducible apply x_andT | with_reducible apply x_orT | with_reducible apply x_notT | with_reducible apply x_andV | with_reducible apply x_orV | with_reducible apply x_notV | with_reducible apply x_ifE | with_reducible apply x_chain | with_reducible apply x_tup | with_reducible apply x_lst | with_reducible apply x_yes | with_reducible apply x_isi | with_reducible apply x_meth | with_reducible apply x_meth0 | with_reducible apply x_methLT | with_reducible apply x_methLTt | with_reducible apply x_gTup | with_reducible apply x_gWtup | with_reducible apply x_gnn | with_reducible apply x_gSub | with_reducible apply x_add | with_reducible apply x_sub | with_reducible apply x_neg | with_reducible apply x_lt | with_reducible apply x_le | with_reducible apply x_gt | with_reducible apply x_ge | with_reducible apply x_eq | with_reducible apply x_ne | with_reducible apply x_eqB | with_reducible apply x_neB | with_reducible apply x_is | with_reducible apply x_isNot | with_reducible apply x_lenT | with_reducible apply x_int | with_reducible apply x_tupT | with_reducible apply x_wSeq | with_reducible apply x_wT | with_reducible apply x_wR | with_reducible apply x_wRng1 | with_reducible apply x_wEnum | with_reducible apply x_dFld | with_reducible apply x_cut01 | with_reducible apply x_cut10 | with_reducible apply x_asI | with_reducible apply x_cutT | with_reducible apply x_iteT | with_reducible apply x_iteF | with_reducible apply x_max2 | with_reducible apply x_min2 | with_reducible apply x_bits | with_reducible refine x_var (by with_unfolding_all rfl) ?_ | with_reducible refine x_gName (by dsimp only [setE] <;> with_unfolding_all rfl) ?_ | with_reducible refine x_gnc (by dsimp only [setE] <;> with_unfolding_all rfl) ?_ | with_reducible refine x_len0 (by with_unfolding_all rfl) ?_ | with_reducible refine x_isiR (by with_unfolding_all exact True.intro) ?_ | with_reducible refine x_ixL (by assumption) (by with_unfolding_all rfl) ?_ | with_reducible refine x_ixT (by with_unfolding_all rfl) ?_ | with_reducible refine x_lenL (by assumption) ?_ | with_reducible refine x_gSubR (by assumption) (by with_unfolding_all rfl) ?_ | with_reducible refine x_lc (by dsimp only [wipeE, setE] <;> with_unfolding_all rfl) ?_))
  refine x_cutR ?_
  intro t ht
  obtain ⟨ms, e1, e2⟩ := cut_map ns none (some 50)
  rw [e1]
  have hlt : t ≠ l := by intro z; subst z; rw [put_same] at ht; cases ht
  refine x_wL lstAt_put ?_
  refine purse_for hlt ha hc hm hm2 (fun w ds μ1 x y h1 h2 h3 e => ?_) ms w0 [] _ _ _ hw.1 hw.2 (by simp) (by simp; omega) (by rw [lstAt_ne hlt.symm]; exact lstAt_put) lstAt_put
  (repeat (first | with_reducible apply x_seq | with_reducible apply x_asg | with_reducible apply x_ret | with_reducible apply x_retN | with_reducible apply x_drop | with_reducible apply x_next | with_reducible apply x_break | with_reducible apply x_cont | with_reducible apply x_if | with_reducible apply x_par | with_reducible apply x_for | with_reducible apply x_c | with_reducible apply x_d1 | with_reducible apply x_d2 | with_reducible apply x_nil | with_reducible apply x_cons | with_reducible apply x_args | with_reducible apply x_call | with_reducible apply x_test | with_reducible apply x_asB | with_reducible apply x_andT | with_reducible apply x_orT | with_reducible apply x_notT | with_reducible apply x_andV | with_reducible apply x_orV | with_reducible apply x_notV | with_reducible apply x_ifE | with_reducible apply x_chain | with_reducible apply x_tup | with_reducible apply x_lst | with_reducible apply x_yes | with_reducible apply x_isi | with_reducible apply x_meth | with_reducible apply x_meth0 | with_reducible apply x_methLT | with_reducible apply x_methLTt | with_reducible apply x_gTup | with_reducible apply x_gWtup | with_reducible apply x_gnn | with_reducible apply x_gSub | with_reducible apply x_add | with_reducible apply x_sub | with_reducible apply x_neg | with_reducible apply x_lt | with_reducible apply x_le | with_reducible apply x_gt | with_reducible apply x_ge | with_reducible apply x_eq | with_reducible apply x_ne | with_reducible apply x_eqB | with_reducible apply x_neB | with_reducible apply x_is | with_reducible apply x_isNot | with_reducible apply x_lenT | with_reducible apply x_int | with_reducible apply x_tupT | with_reducible apply x_wSeq | with_reducible apply x_wT | with_reducible apply x_wR | with_reducible apply x_wRng1 | with_reducible apply x_wEnum | with_reducible apply x_dFld | with_reducible apply x_cut01 | with_reducible apply x_cut10 | with_reducible apply x_asI | with_reducible apply x_cutT | with_reducible apply x_iteT | with_reducible apply x_iteF | with_reducible apply x_max2 | with_reducible apply x_min2 | with_reducible apply x_bits | with_reducible refine x_var (by with_unfolding_all rfl) ?_ | with_reducible refine x_gName (by dsimp only [setE] <;> with_unfolding_all rfl) ?_ | with_reducible refine x_gnc (by dsimp only [setE] <;> with_unfolding_all rfl) ?_ | with_reducible refine x_len0 (by with_unfolding_all rfl) ?_ | with_reducible refine x_isiR (by with_unfolding_all exact True.intro) ?_ | with_reducible refine x_ixL (by assumption) (by with_unfolding_all rfl) ?_ | with_reducible refine x_ixT (by with_unfolding_all rfl) ?_ | with_reducible refine x_lenL (by assumption) ?_ | with_reducible refine x_gSubR (by assumption) (by with_unfolding_all rfl) ?_ | with_reducible refine x_lc (by dsimp only [wipeE, setE] <;> with_unfolding_all rfl) ?_))
  refine x_revL e ?_
  intro q' hq
  (repeat (first | with_reducible apply x_seq | with_reducible apply x_asg | with_reducible apply x_ret | with_reducible apply x_retN | with_reducible apply x_drop | with_reducible apply x_next | with_reducible apply x_break | with_reducible apply x_cont | with_reducible apply x_if | with_reducible apply x_par | with_reducible apply x_for | with_reducible apply x_c | with_reducible apply x_d1 | with_reducible apply x_d2 | with_reducible apply x_nil | with_reducible apply x_cons | with_reducible apply x_args | with_reducible apply x_call | with_reducible apply x_test | with_reducible apply x_asB | with_reducible apply x_andT | with_reducible apply x_orT | with_reducible apply x_notT | with_reducible apply x_andV | with_reducible apply x_orV | with_reducible apply x_notV | with_reducible apply x_ifE | with_reducible apply x_chain | with_reducible apply x_tup | with_reducible apply x_lst | with_reducible apply x_yes | with_reducible apply x_isi | with_reducible apply x_meth | with_reducible apply x_meth0 | with_reducible apply x_methLT | with_reducible apply x_methLTt | with_reducible apply x_gTup | with_reducible apply x_gWtup | with_reducible apply x_gnn | with_reducible apply x_gSub | with_reducible apply x_add | with_reducible apply x_sub | with_reducible apply x_neg | with_reducible apply x_lt | with_reducible apply x_le | with_reducible apply x_gt | with_reducible apply x_ge | with_reducible apply x_eq | with_reducible apply x_ne | with_reducible apply x_eqB | with_reducible apply x_neB | with_reducible apply x_is | with_reducible apply x_isNot | with_reducible apply x_lenT | with_reducible apply x_int | with_reducible apply x_tupT | with_reducible apply x_wSeq | with_reducible apply x_wT | with_reducible apply x_wR | with_reducible apply x_wRng1 | with_reducible apply x_wEnum | with_reducible apply x_dFld | with_reducible apply x_cut01 | with_reducible apply x_cut10 | with_reducible apply x_asI | with_reducible apply x_cutT | with_reducible apply x_iteT | with_reducible apply x_iteF | with_reducible apply x_max2 | with_reducible apply x_min2 | with_reducible apply x_bits | with_reducible refine x_var (by with_unfolding_all rfl) ?_ | with_reducible refine x_gName (by dsimp only [setE] <;> with_unfolding_all rfl) ?_ | with_reducible refine x_gnc (by dsimp only [setE] <;> with_unfolding_all rfl) ?_ | with_reducible refine x_len0 (by with_unfolding_all rfl) ?_ | with_reducible refine x_isiR (by with_unfolding_all exact True.intro) ?_ | with_reducible refine x_ixL (by assumption) (by with_unfolding_all rfl) ?_ | with_reducible refine x_ixT (by with_unfolding_all rfl) ?_ | with_reducible refine x_lenL (by assumption) ?_ | with_reducible refine x_gSubR (by assumption) (by with_unfolding_all rfl) ?_ | with_reducible refine x_lc (by dsimp only [wipeE, setE] <;> with_unfolding_all rfl) ?_))
  intro p hp
  refine q p q' _ ⟨ds.reverse, w, 0, lstAt_put, ?_, ?_, h1, h2, by decide, fun d hd => h3 d (by simpa using hd)⟩
  · have : q' ≠ p := by intro z; subst z; rw [put_same] at hp; cases hp
    rw [lstAt_ne this, lstAt_put, List.map_reverse]
  · intro z; subst z; rw [put_same] at hp; cases hp
end PD
set_option linter.all false
set_option maxRecDepth 100000
/-! PDNum: numbers: powers that a number divides; rows ascending. -/
namespace PD
open PySem
theorem dvd_small : ∀ (k w T : Nat), (∃ t, w ∣ T ^ t) → 0 < w → w < 2 ^ (k + 1) → w ∣ T ^ k
  | 0, w, T, _, h0, h => by
    have : w = 1 := by omega
    subst this; exact Nat.one_dvd _
  | k + 1, w, T, ⟨t, ht⟩, h0, h => by
    by_cases h1 : w = 1
    · subst h1; exact Nat.one_dvd _
    · have hg : Nat.gcd w T ≠ 1 := fun hc => h1 (Nat.Coprime.eq_one_of_dvd (Nat.Coprime.pow_right t hc) ht)
      have hg0 : 0 < Nat.gcd w T := Nat.gcd_pos_of_pos_left _ h0
      have hgw : Nat.gcd w T ∣ w := Nat.gcd_dvd_left _ _
      have e : Nat.gcd w T * (w / Nat.gcd w T) = w := Nat.mul_div_cancel' hgw
      have h2 : 2 ≤ Nat.gcd w T := by omega
      have hle : w / Nat.gcd w T ≤ w / 2 := Nat.div_le_div_left h2 (by decide)
      have hs : w / Nat.gcd w T < 2 ^ (k + 1) := by
        have : 2 ^ (k + 1 + 1) = 2 * 2 ^ (k + 1) := by rw [Nat.pow_succ, Nat.mul_comm]
        omega
      have hp : 0 < w / Nat.gcd w T := Nat.div_pos (Nat.le_of_dvd h0 hgw) hg0
      have hd : w / Nat.gcd w T ∣ T ^ t := Nat.dvd_trans ⟨Nat.gcd w T, by rw [Nat.mul_comm]; exact e.symm⟩ ht
      have ih := dvd_small k (w / Nat.gcd w T) T ⟨t, hd⟩ hp hs
      have z := Nat.mul_dvd_mul (Nat.gcd_dvd_right w T) ih
      rw [e] at z
      rw [Nat.pow_succ, Nat.mul_comm]
      exact z
/-- the first power that w divides -/
def needF (T w : Nat) : Nat → Nat → Option Nat
  | 0, _ => none
  | n + 1, t => if w ∣ T ^ t then some t else needF T w n (t + 1)
theorem needF_some {T w : Nat} : ∀ {n t s : Nat}, needF T w n t = some s → t ≤ s ∧ s < t + n ∧ w ∣ T ^ s ∧ ∀ r, t ≤ r → r < s → ¬ w ∣ T ^ r
  | 0, t, s, h => by cases h
  | n + 1, t, s, h => by
    unfold needF at h
    by_cases hd : w ∣ T ^ t
    · rw [if_pos hd] at h
      cases h
      exact ⟨Nat.le_refl _, by omega, hd, fun r h1 h2 => by omega⟩
    · rw [if_neg hd] at h
      obtain ⟨h1, h2, h3, h4⟩ := needF_some h
      refine ⟨by omega, by omega, h3, fun r k1 k2 => ?_⟩
      by_cases e : r = t
      · rw [e]; exact hd
      · exact h4 r (by omega) k2
theorem needF_none {T w : Nat} : ∀ {n t : Nat}, needF T w n t = none → ∀ r, t ≤ r → r < t + n → ¬ w ∣ T ^ r
  | 0, t, _, r, h1, h2 => by omega
  | n + 1, t, h, r, h1, h2 => by
    unfold needF at h
    by_cases hd : w ∣ T ^ t
    · rw [if_pos hd] at h; cases h
    · rw [if_neg hd] at h
      by_cases e : r = t
      · rw [e]; exact hd
      · exact needF_none h r (by omega) (by omega)
theorem needF_eq {T w k n : Nat} (h0 : 0 < w) (h : w < 2 ^ (k + 1)) (hk : k < n) : needF T w n 0 = needF T w (k + 1) 0 := by
  cases e1 : needF T w n 0 with
  | none =>
    cases e2 : needF T w (k + 1) 0 with
    | none => rfl
    | some s =>
      obtain ⟨_, h2, h3, _⟩ := needF_some e2
      exact absurd h3 (needF_none e1 s (Nat.zero_le _) (by omega))
  | some s =>
    obtain ⟨_, h2, h3, h4⟩ := needF_some e1
    have hd := dvd_small k w T ⟨s, h3⟩ h0 h
    have hs : s ≤ k := by
      rcases Nat.lt_or_ge k s with z | z
      · exact absurd hd (h4 k (Nat.zero_le _) z)
      · exact z
    cases e2 : needF T w (k + 1) 0 with
    | none => exact absurd h3 (needF_none e2 s (Nat.zero_le _) (by omega))
    | some r =>
      obtain ⟨_, k2, k3, k4⟩ := needF_some e2
      rcases Nat.lt_trichotomy s r with z | z | z
      · exact absurd h3 (k4 s (Nat.zero_le _) z)
      · rw [z]
      · exact absurd k3 (h4 r (Nat.zero_le _) z)
def optD : Option Nat → D
  | none => .non
  | some t => .int (t : Nat)
theorem rangeL_succ (lo : Int) (n : Nat) : rangeL lo (n + 1) = .int lo :: rangeL (lo + 1) n := by
  unfold rangeL
  rw [List.range_succ_eq_map, List.map_cons, List.map_map]
  refine congr (congrArg _ (by simp)) (List.map_congr_left fun k _ => ?_)
  show D.int (lo + ((k + 1 : Nat) : Int)) = D.int (lo + 1 + k)
  congr 1; push_cast; omega
theorem pow_lt16 {T : Nat} (h : T < 2 ^ 16) (t : Nat) : T ^ t < 2 ^ (16 * t + 1) := by
  have h1 : T ^ t ≤ (2 ^ 16) ^ t := Nat.pow_le_pow_left (Nat.le_of_lt h) t
  rw [← Nat.pow_mul] at h1
  exact Nat.lt_of_le_of_lt h1 (Nat.pow_lt_pow_right (by decide) (by omega))
theorem mul_okN {a b : Nat} (k l : Nat) (ha : a < 2 ^ k) (hb : b < 2 ^ l) (h : k + l < 1000000) : MulOk (a : Int) (b : Int) := by
  have x := log2_le ha
  have y := log2_le hb
  show Nat.log2 (Int.natAbs (a : Int)) + Nat.log2 (Int.natAbs (b : Int)) < 1000000
  rw [Int.natAbs_natCast, Int.natAbs_natCast]
  omega
theorem bits_gt {w : Nat} (h : 0 < w) : w < 2 ^ (bitsOf (w : Int)) := by
  unfold bitsOf
  rw [if_neg (by omega), Int.natAbs_natCast]
  exact Nat.lt_log2_self
theorem bits_le {w k : Nat} (h : w < 2 ^ k) : bitsOf (w : Int) ≤ k := by
  unfold bitsOf
  by_cases h0 : (w : Int) = 0
  · rw [if_pos h0]; exact Nat.zero_le _
  · rw [if_neg h0, Int.natAbs_natCast]
    have := (Nat.log2_lt (show w ≠ 0 by omega)).mpr h
    omega
theorem bits_pos {w : Nat} (h : 0 < w) : 1 ≤ bitsOf (w : Int) := by
  unfold bitsOf
  rw [if_neg (by omega)]
  omega
theorem sum_nonneg : ∀ {ns : List Int}, (∀ n ∈ ns, 0 ≤ n) → 0 ≤ ns.sum
  | [], _ => by simp
  | n :: ns, h => by
    have := sum_nonneg fun m hm => h m (List.mem_cons_of_mem _ hm)
    have := h n (List.mem_cons_self ..)
    rw [List.sum_cons]; omega
theorem mem_le_sum : ∀ {ns : List Int} {n : Int}, (∀ n ∈ ns, 0 ≤ n) → n ∈ ns → n ≤ ns.sum
  | m :: ns, n, h, hn => by
    have h1 := sum_nonneg fun m hm => h m (List.mem_cons_of_mem _ hm)
    have h2 := h m (List.mem_cons_self ..)
    rw [List.sum_cons]
    rcases List.mem_cons.mp hn with e | hn
    · omega
    · have := mem_le_sum (fun m hm => h m (List.mem_cons_of_mem _ hm)) hn
      omega
theorem sum_le_mul {c : Int} : ∀ {ns : List Int}, (∀ n ∈ ns, n ≤ c) → ns.sum ≤ ns.length * c
  | [], _ => by simp
  | n :: ns, h => by
    have h1 := sum_le_mul fun m hm => h m (List.mem_cons_of_mem _ hm)
    have h2 := h n (List.mem_cons_self ..)
    rw [List.sum_cons, List.length_cons]
    push_cast
    rw [Int.add_mul, Int.one_mul]
    omega
theorem len_le_sum : ∀ {ns : List Int}, (∀ n ∈ ns, 1 ≤ n) → (ns.length : Int) ≤ ns.sum
  | [], _ => by simp
  | n :: ns, h => by
    have h1 := len_le_sum fun m hm => h m (List.mem_cons_of_mem _ hm)
    have h2 := h n (List.mem_cons_self ..)
    rw [List.sum_cons, List.length_cons]
    push_cast
    omega
theorem x_gcd {a b : Nat} {μ : Sto} {Q : QE} (h : Q (.int ((Nat.gcd a b : Nat) : Int)) μ) : aGcd [.int a, .int b] μ Q := by
  show Q (.int ((Nat.gcd (Int.natAbs (a : Int)) (Int.natAbs (b : Int)) : Nat) : Int)) μ
  rw [Int.natAbs_natCast, Int.natAbs_natCast]; exact h
theorem x_eqS {a b : Str} {μ : Sto} {Q : QE} (ha : plain (.str a) = true) (hb : plain (.str b) = true) (h : Q (.bl (a == b)) μ) : uEq (.str a) (.str b) μ Q := by
  refine ⟨⟨ha, by simp [depth]⟩, ⟨hb, by simp [depth]⟩, ?_⟩
  simp only [eqD]; exact h
theorem x_lenSet {ns : List Int} {μ : Sto} {Q : QE} (e : ns.length ≤ 4000) (h : ∀ ns' : List Int, ns'.Nodup → (∀ k, k ∈ ns' ↔ k ∈ ns) → Q (.int ns'.length) μ) : uLenSet (.tup (ns.map D.int)) μ Q := by
  show opt (intsOf (ns.map D.int)) _; rw [intsOf_map]; exact ⟨e, h⟩
theorem x_raise {cn : Str} {fs : List Str} {t : DA} {nx bk ct : Ev → Sto → Prop} {rt : D → Sto → Prop} {ex : Ex → Ev → Sto → Prop} {ρ : Ev} {μ : Sto} (h : t ρ μ (fun ds μ1 => ds.length = fs.length ∧ ex ⟨cn, (fs.zip ds).reverse⟩ ρ μ1) (fun x μ1 => ex x ρ μ1)) : sRaise cn fs t ⟨nx, rt, bk, ct, ex⟩ ρ μ := h
theorem x_try {isa : Str → Str → Option Bool} {tb : DS} {hs : List DCl} {nx bk ct : Ev → Sto → Prop} {rt : D → Sto → Prop} {ex : Ex → Ev → Sto → Prop} {ρ : Ev} {μ : Sto} (h : tb ⟨nx, rt, bk, ct, fun x ρ1 μ1 => catchW isa ⟨nx, rt, bk, ct, ex⟩ x hs ρ1 μ1⟩ ρ μ) : sTry isa tb hs ⟨nx, rt, bk, ct, ex⟩ ρ μ := h
theorem x_catch {isa : Str → Str → Option Bool} {n : Str} {i : Option Nat} {sd : Nat → Nat → DS} {r : List DCl} {K : DK} {x : Ex} {ρ : Ev} {μ : Sto} (e : isa x.cls n = some true)
    (h : ∀ a d, sd a d ⟨fun ρ1 μ1 => K.nx (goneE i ρ1) μ1, K.rt, fun ρ1 μ1 => K.bk (goneE i ρ1) μ1, fun ρ1 μ1 => K.ct (goneE i ρ1) μ1, fun _ _ _ => False⟩ (boundE i (exD x a d) ρ) μ) : catchW isa K x ((n, i, sd) :: r) ρ μ := by
  unfold catchW; rw [e]; exact h
theorem x_skip {isa : Str → Str → Option Bool} {n : Str} {i : Option Nat} {sd : Nat → Nat → DS} {r : List DCl} {K : DK} {x : Ex} {ρ : Ev} {μ : Sto} (e : isa x.cls n = some false) (h : catchW isa K x r ρ μ) : catchW isa K x ((n, i, sd) :: r) ρ μ := by
  unfold catchW; rw [e]; exact h
theorem x_dFld {a d : Nat} {f : Str} {te : DE} {ρ : Ev} {μ : Sto} {Q : QE} {E : QX} (h : te ρ μ (fldR a d f Q) E) : dFld a d f te ρ μ Q E := h
theorem x_fld {a d : Nat} {f : Str} {Q : QE} {x : Ex} {μ : Sto} {y : D} (e : ((x.fs.map (·.1)).zip (x.fs.map (·.2))).lookup f = some y) (h : Q y μ) : fldR a d f Q (exD x a d) μ := by
  refine ⟨⟨rfl, rfl⟩, ?_⟩
  rw [e]; exact h
/-- two ascending rows of the same numbers are one row -/
theorem sorted_eq : ∀ {a b : List Int}, a.Perm b → a.Pairwise (· ≤ ·) → b.Pairwise (· ≤ ·) → a = b
  | [], b, h, _, _ => by rw [h.symm.eq_nil]
  | x :: a, [], h, _, _ => by have := h.eq_nil; cases this
  | x :: a, y :: b, h, ha, hb => by
    rw [List.pairwise_cons] at ha hb
    have hx : x ∈ y :: b := h.mem_iff.mp (List.mem_cons_self ..)
    have hy : y ∈ x :: a := h.mem_iff.mpr (List.mem_cons_self ..)
    have e : x = y := by
      rcases List.mem_cons.mp hx with z | z
      · exact z
      · rcases List.mem_cons.mp hy with z2 | z2
        · exact z2.symm
        · have h1 := hb.1 x z
          have h2 := ha.1 y z2
          omega
    subst e
    rw [sorted_eq (List.Perm.cons_inv h) ha.2 hb.2]
theorem x_cut11 {t l h0 : DE} {ρ : Ev} {μ : Sto} {Q : QE} {E : QX} (h : t ρ μ (fun x μ1 => l ρ μ1 (fun a μ2 => asI a fun i => h0 ρ μ2 (fun b μ3 => asI b fun j => cutR x (some i) (some j) μ3 Q) E) E) E) : dCut t (some l) (some h0) ρ μ Q E := h
end PD
/-! PDV: what each construct asks, on values alone: a list is told by what it holds (.rol), no store; a draw's pool is .non. -/
namespace PD
open PySem
abbrev VQ := D → Prop
abbrev VX := Ex → Prop
abbrev VE := Ev → VQ → VX → Prop
abbrev VT := Ev → (Bool → Prop) → VX → Prop
abbrev VA := Ev → (List D → Prop) → VX → Prop
abbrev W1 := D → VQ → Prop
abbrev W2 := D → D → VQ → Prop
abbrev WA := List D → VQ → Prop
abbrev VPr := List D → VQ → VX → Prop
structure VK where
  nx : Ev → Prop
  rt : D → Prop
  bk : Ev → Prop
  ct : Ev → Prop
  ex : Ex → Ev → Prop
abbrev VS := VK → Ev → Prop
abbrev VG := D → Ev → (Ev → Prop) → Prop
abbrev VI := Ev → (List D → Prop) → VX → Prop

/-! ### expressions -/
def vVar (i : Nat) : VE := fun σ Q _ => opt (look σ i) Q
def vC (d : D) : VE := fun _ Q _ => Q d
def v1 (g : W1) (a : VE) : VE := fun σ Q E => a σ (fun x => g x Q) E
def v2 (g : W2) (a b : VE) : VE := fun σ Q E => a σ (fun x => b σ (fun y => g x y Q) E) E
def vNil : VA := fun _ Q _ => Q []
def vCons (a : VE) (r : VA) : VA := fun σ Q E => a σ (fun x => r σ (fun xs => Q (x :: xs)) E) E
def vArgs (g : WA) (t : VA) : VE := fun σ Q E => t σ (fun xs => g xs Q) E
def vCall (pr : VPr) (t : VA) : VE := fun σ Q E => t σ (fun xs => pr xs Q E) E
def asV (Q : Bool → Prop) : VQ := fun x => match x with
  | .bl b => Q b
  | _ => False
def vTest (t : VE) : VT := fun σ Q E => t σ (asV Q) E
def vAndT (t u : VT) : VT := fun σ Q E => t σ (fun c => if c = true then u σ Q E else Q false) E
def vOrT (t u : VT) : VT := fun σ Q E => t σ (fun c => if c = true then Q true else u σ Q E) E
def vNotT (t : VT) : VT := fun σ Q E => t σ (fun c => Q (!c)) E
def vAndV (a b : VE) : VE := fun σ Q E => a σ (asV fun c => if c = true then b σ Q E else Q (.bl false)) E
def vOrV (a b : VE) : VE := fun σ Q E => a σ (asV fun c => if c = true then Q (.bl true) else b σ Q E) E
def vNotV (a : VE) : VE := fun σ Q E => a σ (asV fun c => Q (.bl (!c))) E
def vIf (c : VT) (a b : VE) : VE := fun σ Q E => c σ (fun k => if k = true then a σ Q E else b σ Q E) E
def vChain (g h : W2) (a b c : VE) : VE := fun σ Q E => a σ (fun x => b σ (fun y => g x y (asV fun k => if k = true then c σ (fun z => h y z Q) E else Q (.bl false))) E) E
def vTup (t : VA) : VE := fun σ Q E => t σ (fun xs => xs.length ≤ LINE ∧ Q (.tup xs)) E
def vLst (t : VA) : VE := fun σ Q E => t σ (fun xs => xs.length ≤ LINE ∧ Q (.rol xs)) E
def vYes : VT := fun _ Q _ => Q true

/-! ### operators -/
def oAdd : W2 := fun x y Q => match x, y with
  | .int i, .int j => Q (.int (i + j))
  | .str a, .str b => a.length + b.length ≤ LINE ∧ Q (.str (a ++ b))
  | .tup a, .tup b => a.length + b.length ≤ LINE ∧ Q (.tup (a ++ b))
  | .rol a, .rol b => a.length + b.length ≤ LINE ∧ Q (.rol (a ++ b))
  | _, _ => False
def oSub : W2 := fun x y Q => match x, y with
  | .int i, .int j => Q (.int (i - j))
  | _, _ => False
def oMul : W2 := fun x y Q => match x, y with
  | .int i, .int j => MulOk i j ∧ Q (.int (i * j))
  | .rol xs, .int k => (-(2 ^ 63) ≤ k ∧ k < 2 ^ 63 ∧ xs.length * k.toNat ≤ LINE) ∧ Q (.rol (repL xs k))
  | _, _ => False
def oDiv : W2 := fun x y Q => match x, y with
  | .int i, .int j => DivOk j ∧ Q (.int (i / j))
  | _, _ => False
def oMod : W2 := fun x y Q => match x, y with
  | .int i, .int j => 0 < j ∧ Q (.int (i % j))
  | _, _ => False
def oPow : W2 := fun x y Q => match x, y with
  | .int i, .int j => PowOk i j ∧ Q (.int (i ^ j.toNat))
  | _, _ => False
def oShl : W2 := fun x y Q => match x, y with
  | .int i, .int j => PowOk i j ∧ Q (.int (i * 2 ^ j.toNat))
  | _, _ => False
def oNeg : W1 := fun x Q => match x with
  | .int i => Q (.int (-i))
  | _ => False
def eqV (x y : D) (R : Bool → Prop) : Prop := match x, y with
  | .rol xs, .rol ys => EqOkL xs ∧ EqOkL ys ∧ R (eqL xs ys)
  | x, y => EqOk x ∧ EqOk y ∧ R (eqD x y)
def oEq : W2 := fun x y Q => eqV x y fun b => Q (.bl b)
def oNe : W2 := fun x y Q => eqV x y fun b => Q (.bl (!b))
def oCmp (p : Int → Int → Bool) : W2 := fun x y Q => match x, y with
  | .int i, .int j => Q (.bl (p i j))
  | _, _ => False
abbrev oLt : W2 := oCmp fun i j => decide (i < j)
abbrev oLe : W2 := oCmp fun i j => decide (i ≤ j)
abbrev oGt : W2 := oCmp fun i j => decide (j < i)
abbrev oGe : W2 := oCmp fun i j => decide (j ≤ i)
def oIs : W2 := fun x y Q => match y with
  | .non => Q (.bl (isNon x))
  | _ => False
def oIsNot : W2 := fun x y Q => match y with
  | .non => Q (.bl (!isNon x))
  | _ => False
def seqV (x : D) : Option (List D) := match x with
  | .tup xs => some xs
  | .wtup xs => some xs
  | .rol xs => some xs
  | _ => none
def oIx : W2 := fun x y Q => match y with
  | .int i => opt (seqV x) fun xs => opt (atI xs i) Q
  | _ => False
def cutV (x : D) (lo hi : Option Int) (Q : VQ) : Prop := match x with
  | .tup xs => Q (.tup (cutL xs lo hi))
  | .rol xs => Q (.rol (cutL xs lo hi))
  | _ => False
def vCut (t : VE) (lo hi : Option VE) : VE := fun σ Q E => t σ (fun x => match lo, hi with
  | none, none => cutV x none none Q
  | some l, none => l σ (fun a => asI a fun i => cutV x (some i) none Q) E
  | none, some h => h σ (fun b => asI b fun j => cutV x none (some j) Q) E
  | some l, some h => l σ (fun a => asI a fun i => h σ (fun b => asI b fun j => cutV x (some i) (some j) Q) E) E) E

/-! ### built-in functions -/
def lenV (x : D) : Option Nat := match x with
  | .str z => if z.length ≤ LINE then some z.length else none
  | x => (seqV x).map List.length
def bLen : WA := fun xs Q => match xs with
  | [x] => opt (lenV x) fun n => Q (.int n)
  | _ => False
def bInt : WA := fun xs Q => match xs with
  | [.int i] => Q (.int i)
  | [.bl b] => Q (.int (if b then 1 else 0))
  | _ => False
def bAbs : WA := fun xs Q => match xs with
  | [.int i] => Q (.int (if i < 0 then -i else i))
  | _ => False
def bTuple : WA := fun xs Q => match xs with
  | [.tup ys] => Q (.tup ys)
  | [.rol ys] => Q (.tup ys)
  | _ => False
def bList : WA := fun xs Q => match xs with
  | [x] => opt (seqV x) fun ys => Q (.rol ys)
  | _ => False
def intSeqV (x : D) : Option (List Int) := (seqV x).bind intsOf
def bSum : WA := fun xs Q => match xs with
  | [x] => opt (intSeqV x) fun ns => Q (.int ns.sum)
  | _ => False
def bMax : WA := fun xs Q => match xs with
  | [x] => opt (intSeqV x) fun ns => 0 < ns.length ∧ ∀ m, m ∈ ns → (∀ y, y ∈ ns → y ≤ m) → Q (.int m)
  | [.int i, .int j] => Q (.int (if j > i then j else i))
  | _ => False
def bMin : WA := fun xs Q => match xs with
  | [x] => opt (intSeqV x) fun ns => 0 < ns.length ∧ ∀ m, m ∈ ns → (∀ y, y ∈ ns → m ≤ y) → Q (.int m)
  | [.int i, .int j] => Q (.int (if j < i then j else i))
  | _ => False
def bGcd : WA := fun xs Q => match xs with
  | [.int i, .int j] => Q (.int ((Nat.gcd i.natAbs j.natAbs : Nat) : Int))
  | _ => False
def vIsi (T : Ty) (t : VE) : VE := fun σ Q E => t σ (fun x => match x with
  | .exv .. => False
  | x => Q (.bl (isTy T x))) E
def lstV (x : D) : Option (List D) := match x with
  | .rol xs => some xs
  | _ => none
def oBits : W1 := fun x Q => match x with
  | .int i => Q (.int (bitsOf i))
  | _ => False
def oRev : W1 := fun x Q => opt (lstV x) fun xs => Q (.rol xs.reverse)
def bSorted : WA := fun xs Q => match xs with
  | [x] => opt ((lstV x).bind intsOf) fun ns => ∀ (ns' : List Int), ns'.Perm ns → ns'.Pairwise (· ≤ ·) → Q (.rol (ns'.map D.int))
  | _ => False
def oSortSet : W1 := fun x Q => match x with
  | .tup xs => opt (intsOf xs) fun ns => ns.length < 64 ∧ ∀ (ns' : List Int), ns'.Pairwise (· < ·) → (∀ k, k ∈ ns' ↔ k ∈ ns) → Q (.rol (ns'.map D.int))
  | _ => False
def oLenSet : W1 := fun x Q => match x with
  | .tup xs => opt (intsOf xs) fun ns => ns.length ≤ 4000 ∧ ∀ ns' : List Int, ns'.Nodup → (∀ k, k ∈ ns' ↔ k ∈ ns) → Q (.int ns'.length)
  | _ => False
def isLTV (x : D) : Prop := match x with
  | .tup _ => True
  | .rol _ => True
  | _ => False
def nCount : D → WA := fun x ys Q => match ys with
  | [.int k] => opt (intSeqV x) fun ns => Q (.int (ns.count k : Nat))
  | _ => False
def vMethLT (g : D → WA) (to : VE) (t : VA) : VE := fun σ Q E => to σ (fun x => isLTV x ∧ t σ (fun xs => g x xs Q) E) E

/-! ### walks, comprehensions -/
def kSeq (t : VE) : VI := fun σ R E => t σ (fun x => match x with
  | .tup xs => R xs
  | .rol xs => R xs
  | _ => False) E
def kRng1 (t : VE) : VI := fun σ R E => t σ (fun x => match x with
  | .int j => (-(2 ^ 62) ≤ j ∧ j < 2 ^ 62) ∧ R (rangeL 0 j.toNat)
  | _ => False) E
def kRng2 (t u : VE) : VI := fun σ R E => t σ (fun x => u σ (fun y => match x, y with
  | .int i, .int j => (-(2 ^ 62) ≤ i ∧ i < 2 ^ 62 ∧ -(2 ^ 62) ≤ j ∧ j < 2 ^ 62) ∧ R (rangeL i (j - i).toNat)
  | _, _ => False) E) E
def kEnum (t : VE) : VI := fun σ R E => kSeq t σ (fun xs => R (enumL xs 0)) E
def hName (i : Nat) : VG := fun d σ Q => Q (setE σ i (some d))
def namesV : List Nat → List D → Ev → (Ev → Prop) → Prop
  | [], [], σ, Q => Q σ
  | i :: is, d :: ds, σ, Q => namesV is ds (setE σ i (some d)) Q
  | _, _, _, _ => False
def hTup (is : List Nat) : VG := fun d σ Q => match d with
  | .tup ds => namesV is ds σ Q
  | .wtup ds => namesV is ds σ Q
  | _ => False
def lcV (g : VG) (tt : VT) (te : VE) (σ : Ev) (Q : VQ) : List D → List D → Prop
  | [], acc => Q (.rol acc)
  | x :: xs, acc => g x σ (fun σ1 => tt σ1 (fun b => if b = true then te σ1 (fun y => acc.length < LINE ∧ lcV g tt te σ Q xs (acc ++ [y])) (fun _ => False) else lcV g tt te σ Q xs acc) (fun _ => False))
def vLc (wi : VI) (g : VG) (tt : VT) (te : VE) (vs : List Nat) : VE := fun σ Q E => wi σ (fun xs => lcV g tt te (wipeE σ vs) Q xs []) E

/-! ### statements -/
def tNext : VS := fun K σ => K.nx σ
def tSeq (t u : VS) : VS := fun K σ => t { K with nx := u K } σ
def tBreak : VS := fun K σ => K.bk σ
def tCont : VS := fun K σ => K.ct σ
def tDrop (t : VE) : VS := fun K σ => t σ (fun _ => K.nx σ) (fun x => K.ex x σ)
def tRet (t : VE) : VS := fun K σ => t σ K.rt (fun x => K.ex x σ)
def tRetN : VS := fun K _ => K.rt .non
def tIf (c : VT) (t u : VS) : VS := fun K σ => c σ (fun b => if b = true then t K σ else u K σ) (fun x => K.ex x σ)
def tAsg (t : VE) (g : VG) : VS := fun K σ => t σ (fun d => g d σ K.nx) (fun x => K.ex x σ)
def tPar (i j : Nat) (a b : VE) : VS := fun K σ => a σ (fun x => b σ (fun y => K.nx (setE (setE σ i (some x)) j (some y))) (fun e => K.ex e σ)) (fun e => K.ex e σ)
def forV (g : VG) (tb : VS) (K : VK) : List D → Ev → Prop
  | [], σ => K.nx σ
  | x :: xs, σ => g x σ (fun σ1 => tb { K with nx := forV g tb K xs, ct := forV g tb K xs, bk := K.nx } σ1)
def tFor (wi : VI) (g : VG) (tb : VS) : VS := fun K σ => wi σ (fun xs => forV g tb K xs σ) (fun e => K.ex e σ)
/-- a for over an own list that stays as it is within -/
def tForO (i : Nat) (en : Bool) (g : VG) (tb : VS) : VS := fun K σ => opt (look σ i) fun x => match x with
  | .rol xs => forV g tb K (if en then enumL xs 0 else xs) σ
  | _ => False
def whileV (c : VT) (tb : VS) (K : VK) : Nat → Ev → Prop
  | 0, _ => False
  | n + 1, σ => c σ (fun b => if b = true then tb { K with nx := whileV c tb K n, ct := whileV c tb K n, bk := K.nx } σ else K.nx σ) (fun e => K.ex e σ)
def tWhile (c : VT) (tb : VS) : VS := fun K σ => ∃ n, whileV c tb K n σ
def tRaise (cn : Str) (fs : List Str) (t : VA) : VS := fun K σ => t σ (fun ds => ds.length = fs.length ∧ K.ex ⟨cn, (fs.zip ds).reverse⟩ σ) (fun x => K.ex x σ)
abbrev VCl := Str × Option Nat × (Nat → Nat → VS)
def catchV (isa : Str → Str → Option Bool) (K : VK) (x : Ex) : List VCl → Ev → Prop
  | [], σ => K.ex x σ
  | (n, i, sd) :: r, σ => match isa x.cls n with
    | some true => ∀ a d, sd a d { nx := fun σ1 => K.nx (goneE i σ1), rt := K.rt, bk := fun σ1 => K.bk (goneE i σ1), ct := fun σ1 => K.ct (goneE i σ1), ex := fun _ _ => False } (boundE i (exD x a d) σ)
    | some false => catchV isa K x r σ
    | none => False
def tTry (isa : Str → Str → Option Bool) (tb : VS) (hs : List VCl) : VS := fun K σ => tb { K with ex := fun x σ1 => catchV isa K x hs σ1 } σ
def fldV (a d : Nat) (f : Str) (Q : VQ) (x : D) : Prop := match x with
  | .exv a' d' ns xs => (a' = a ∧ d' = d) ∧ opt ((ns.zip xs).lookup f) Q
  | _ => False
def vFld (a d : Nat) (f : Str) (te : VE) : VE := fun σ Q E => te σ (fldV a d f Q) E
/-! changes of own lists -/
def own (σ : Ev) (i : Nat) (k : List D → Prop) : Prop := opt (look σ i) fun x => match x with
  | .rol xs => k xs
  | _ => False
def tApp (i : Nat) (e : VE) : VS := fun K σ => own σ i fun xs => e σ (fun y => xs.length < LINE ∧ K.nx (setE σ i (some (.rol (xs ++ [y]))))) (fun x => K.ex x σ)
/-- an own list is put at the end of another one: its name is told no more -/
def tAppMv (i j : Nat) : VS := fun K σ => own σ i fun xs => opt (look σ j) fun y => xs.length < LINE ∧ K.nx (setE (setE σ j none) i (some (.rol (xs ++ [y]))))
def tSet (i : Nat) (ei e : VE) : VS := fun K σ => own σ i fun xs => e σ (fun y => ei σ (fun k => asI k fun k => opt (ixN xs.length k) fun j => K.nx (setE σ i (some (.rol (xs.set j y))))) (fun x => K.ex x σ)) (fun x => K.ex x σ)
def tPop (i : Nat) (g : VG) : VS := fun K σ => own σ i fun xs => opt (xs[xs.length - 1]?) fun y => g y (setE σ i (some (.rol xs.dropLast))) K.nx
def tPop1 (i : Nat) (e : VE) (g : VG) : VS := fun K σ => own σ i fun xs => e σ (fun k => asI k fun k => (-(2 ^ 63) ≤ k ∧ k < 2 ^ 63) ∧ opt (ixN xs.length k) fun j => opt (xs[j]?) fun y => g y (setE σ i (some (.rol (xs.eraseIdx j)))) K.nx) (fun x => K.ex x σ)
def hDrop : VG := fun _ σ Q => Q σ
/-- the own list i is the one of name j from now on -/
def tMv (i j : Nat) : VS := fun K σ => opt (look σ i) fun x => K.nx (setE (setE σ i none) j (some x))

/-- a def's promise, by its body -/
def vBody (n m : Nat) (body : VS) : VPr := fun ds Q E => ds.length = n ∧
  body { nx := fun _ => Q .non, rt := Q, bk := fun _ => False, ct := fun _ => False, ex := fun x _ => E x } (ds.map some ++ List.replicate m none)
end PD
set_option linter.all false
/-! PDVRel: how the store's values stand for values, and a state for its names. -/
namespace PD
open PySem
mutual
/-- d of the store stands for the value y, through places that A does not hold -/
def Rp (A : Nat → Prop) (μ : Sto) : D → D → Prop
  | .non, .non => True
  | .bl a, .bl b => a = b
  | .int a, .int b => a = b
  | .str a, .str b => a = b
  | .tup xs, .tup ys => Rps A μ xs ys
  | .wtup xs, .wtup ys => Rps A μ xs ys
  | .loc p, .rol ys => ¬ A p ∧ ∃ xs, μ p = some (.lst xs) ∧ Rps A μ xs ys
  | .exv a d ns xs, .exv a' d' ns' ys => (a = a' ∧ d = d' ∧ ns = ns') ∧ Rps A μ xs ys
  | _, _ => False
def Rps (A : Nat → Prop) (μ : Sto) : List D → List D → Prop
  | [], [] => True
  | x :: xs, y :: ys => Rp A μ x y ∧ Rps A μ xs ys
  | _, _ => False
end
section
variable {A A' : Nat → Prop} {μ μ' : Sto}
mutual
theorem Rp.step (h : ∀ p o, ¬ A p → μ p = some o → ¬ A' p ∧ μ' p = some o) : ∀ {d y : D}, Rp A μ d y → Rp A' μ' d y
  | d, .non, k => by cases d <;> simp [Rp] at k ⊢
  | d, .bl b, k => by cases d <;> simp [Rp] at k ⊢; exact k
  | d, .int b, k => by cases d <;> simp [Rp] at k ⊢; exact k
  | d, .str b, k => by cases d <;> simp [Rp] at k ⊢; exact k
  | d, .tup ys, k => by cases d <;> simp [Rp] at k ⊢; exact Rps.step h k
  | d, .wtup ys, k => by cases d <;> simp [Rp] at k ⊢; exact Rps.step h k
  | d, .rol ys, k => by
    cases d <;> simp [Rp] at k ⊢
    obtain ⟨k1, xs, k2, k3⟩ := k
    exact ⟨(h _ _ k1 k2).1, xs, (h _ _ k1 k2).2, Rps.step h k3⟩
  | d, .loc a, k => by cases d <;> simp [Rp] at k
  | d, .exv a b ns ys, k => by
    cases d <;> simp [Rp] at k ⊢
    exact ⟨k.1, Rps.step h k.2⟩
theorem Rps.step (h : ∀ p o, ¬ A p → μ p = some o → ¬ A' p ∧ μ' p = some o) : ∀ {xs ys : List D}, Rps A μ xs ys → Rps A' μ' xs ys
  | [], [], _ => by simp [Rps]
  | x :: xs, y :: ys, k => by
    simp only [Rps] at k ⊢
    exact ⟨Rp.step h k.1, Rps.step h k.2⟩
  | [], _ :: _, k => by simp [Rps] at k
  | _ :: _, [], k => by simp [Rps] at k
end
theorem rp_non {d : D} : Rp A μ d .non ↔ d = .non := by cases d <;> simp [Rp]
theorem rp_bl {d : D} {b : Bool} : Rp A μ d (.bl b) ↔ d = .bl b := by cases d <;> simp [Rp]
theorem rp_int {d : D} {b : Int} : Rp A μ d (.int b) ↔ d = .int b := by cases d <;> simp [Rp]
theorem rp_str {d : D} {b : Str} : Rp A μ d (.str b) ↔ d = .str b := by cases d <;> simp [Rp]
theorem rp_tup {d : D} {ys : List D} : Rp A μ d (.tup ys) ↔ ∃ xs, d = .tup xs ∧ Rps A μ xs ys := by cases d <;> simp [Rp]
theorem rp_wtup {d : D} {ys : List D} : Rp A μ d (.wtup ys) ↔ ∃ xs, d = .wtup xs ∧ Rps A μ xs ys := by cases d <;> simp [Rp]
theorem rp_rol {d : D} {ys : List D} : Rp A μ d (.rol ys) ↔ ∃ p xs, d = .loc p ∧ ¬ A p ∧ μ p = some (.lst xs) ∧ Rps A μ xs ys := by
  cases d <;> simp [Rp]
theorem rp_loc {d : D} {a : Nat} : ¬ Rp A μ d (.loc a) := by cases d <;> simp [Rp]
theorem rp_exv {d : D} {a b : Nat} {ns : List Str} {ys : List D} : Rp A μ d (.exv a b ns ys) ↔ ∃ xs, d = .exv a b ns xs ∧ Rps A μ xs ys := by
  cases d <;> simp [Rp]
  constructor
  · rintro ⟨⟨rfl, rfl, rfl⟩, h⟩; exact ⟨_, ⟨rfl, rfl, rfl, rfl⟩, h⟩
  · rintro ⟨_, ⟨rfl, rfl, rfl, rfl⟩, h⟩; exact ⟨⟨rfl, rfl, rfl⟩, h⟩
theorem rps_nil {xs : List D} : Rps A μ xs [] ↔ xs = [] := by cases xs <;> simp [Rps]
theorem rps_cons {xs ys : List D} {y : D} : Rps A μ xs (y :: ys) ↔ ∃ x r, xs = x :: r ∧ Rp A μ x y ∧ Rps A μ r ys := by
  cases xs with
  | nil => simp [Rps]
  | cons a r =>
    simp only [Rps]
    constructor
    · intro h; exact ⟨a, r, rfl, h.1, h.2⟩
    · rintro ⟨x, r, e, h⟩; cases e; exact h
theorem Rps.len : ∀ {xs ys : List D}, Rps A μ xs ys → xs.length = ys.length
  | [], [], _ => rfl
  | x :: xs, y :: ys, k => by
    simp only [Rps] at k
    simp only [List.length_cons, Rps.len k.2]
  | [], _ :: _, k => by simp [Rps] at k
  | _ :: _, [], k => by simp [Rps] at k
theorem Rps.get : ∀ {xs ys : List D} {j : Nat} {y : D}, Rps A μ xs ys → ys[j]? = some y → ∃ d, xs[j]? = some d ∧ Rp A μ d y
  | [], [], _, _, _, e => by simp at e
  | x :: xs, y :: ys, 0, z, k, e => by
    simp only [Rps] at k
    simp at e
    subst e
    exact ⟨x, by simp, k.1⟩
  | x :: xs, y :: ys, j + 1, z, k, e => by
    simp only [Rps] at k
    simp at e
    obtain ⟨d, h1, h2⟩ := Rps.get k.2 e
    exact ⟨d, by simpa using h1, h2⟩
  | [], _ :: _, _, _, k, _ => by simp [Rps] at k
  | _ :: _, [], _, _, k, _ => by simp [Rps] at k
theorem Rps.app : ∀ {xs ys us vs : List D}, Rps A μ xs ys → Rps A μ us vs → Rps A μ (xs ++ us) (ys ++ vs)
  | [], [], _, _, _, h => h
  | x :: xs, y :: ys, _, _, k, h => by
    simp only [Rps, List.cons_append] at k ⊢
    exact ⟨k.1, Rps.app k.2 h⟩
  | [], _ :: _, _, _, k, _ => by simp [Rps] at k
  | _ :: _, [], _, _, k, _ => by simp [Rps] at k
theorem Rps.one {d y : D} (h : Rp A μ d y) : Rps A μ [d] [y] := by simp only [Rps]; exact ⟨h, trivial⟩
theorem Rps.drop : ∀ (n : Nat) {xs ys : List D}, Rps A μ xs ys → Rps A μ (xs.drop n) (ys.drop n)
  | 0, _, _, k => by simpa using k
  | n + 1, [], [], k => by simpa using k
  | n + 1, x :: xs, y :: ys, k => by
    simp only [Rps] at k
    simpa using Rps.drop n k.2
  | _ + 1, [], _ :: _, k => by simp [Rps] at k
  | _ + 1, _ :: _, [], k => by simp [Rps] at k
theorem Rps.take : ∀ (n : Nat) {xs ys : List D}, Rps A μ xs ys → Rps A μ (xs.take n) (ys.take n)
  | 0, _, _, k => by simp [Rps]
  | n + 1, [], [], k => by simp [Rps]
  | n + 1, x :: xs, y :: ys, k => by
    simp only [Rps] at k
    simp only [List.take_succ_cons, Rps]
    exact ⟨k.1, Rps.take n k.2⟩
  | _ + 1, [], _ :: _, k => by simp [Rps] at k
  | _ + 1, _ :: _, [], k => by simp [Rps] at k
theorem Rps.set : ∀ {j : Nat} {xs ys : List D} {d y : D}, Rps A μ xs ys → Rp A μ d y → Rps A μ (xs.set j d) (ys.set j y)
  | _, [], [], _, _, k, _ => by simp [Rps]
  | 0, x :: xs, y :: ys, _, _, k, h => by
    simp only [Rps, List.set_cons_zero] at k ⊢
    exact ⟨h, k.2⟩
  | j + 1, x :: xs, y :: ys, _, _, k, h => by
    simp only [Rps, List.set_cons_succ] at k ⊢
    exact ⟨k.1, Rps.set k.2 h⟩
  | _, [], _ :: _, _, _, k, _ => by simp [Rps] at k
  | _, _ :: _, [], _, _, k, _ => by simp [Rps] at k
theorem Rps.erase : ∀ {j : Nat} {xs ys : List D}, Rps A μ xs ys → Rps A μ (xs.eraseIdx j) (ys.eraseIdx j)
  | _, [], [], k => by simp [Rps]
  | 0, x :: xs, y :: ys, k => by
    simp only [Rps] at k
    simpa using k.2
  | j + 1, x :: xs, y :: ys, k => by
    simp only [Rps, List.eraseIdx_cons_succ] at k ⊢
    exact ⟨k.1, Rps.erase k.2⟩
  | _, [], _ :: _, k => by simp [Rps] at k
  | _, _ :: _, [], k => by simp [Rps] at k
theorem Rps.dropLast {xs ys : List D} (k : Rps A μ xs ys) : Rps A μ xs.dropLast ys.dropLast := by
  rw [List.dropLast_eq_take, List.dropLast_eq_take, k.len]; exact k.take _
theorem Rps.rev : ∀ {xs ys : List D}, Rps A μ xs ys → Rps A μ xs.reverse ys.reverse
  | [], [], _ => by simp [Rps]
  | x :: xs, y :: ys, k => by
    simp only [Rps] at k
    simp only [List.reverse_cons]
    exact (Rps.rev k.2).app (.one k.1)
  | [], _ :: _, k => by simp [Rps] at k
  | _ :: _, [], k => by simp [Rps] at k
theorem Rps.rep {xs ys : List D} (k : Rps A μ xs ys) : ∀ n : Nat, Rps A μ (List.replicate n xs).flatten (List.replicate n ys).flatten
  | 0 => by simp [Rps]
  | n + 1 => by
    simp only [List.replicate_succ, List.flatten_cons]
    exact k.app (k.rep n)
theorem Rps.cut {xs ys : List D} (k : Rps A μ xs ys) (lo hi : Option Int) : Rps A μ (cutL xs lo hi) (cutL ys lo hi) := by
  unfold cutL
  rw [k.len]
  exact (k.drop _).take _
theorem Rps.at {xs ys : List D} {i : Int} {y : D} (k : Rps A μ xs ys) (e : atI ys i = some y) : ∃ d, atI xs i = some d ∧ Rp A μ d y := by
  unfold atI at e ⊢
  rw [k.len]
  cases h : ixN ys.length i with
  | none => rw [h] at e; cases e
  | some j =>
    rw [h] at e
    exact k.get e
theorem rps_ints : ∀ {ns : List Int} {xs : List D}, Rps A μ xs (ns.map D.int) → xs = ns.map D.int
  | [], xs, k => by rw [List.map_nil, rps_nil] at k; exact k
  | n :: ns, xs, k => by
    rw [List.map_cons, rps_cons] at k
    obtain ⟨x, r, rfl, h1, h2⟩ := k
    rw [rp_int.mp h1, rps_ints h2, List.map_cons]
theorem ints_rps : ∀ (ns : List Int), Rps A μ (ns.map D.int) (ns.map D.int)
  | [] => by simp [Rps]
  | n :: ns => by
    simp only [List.map_cons, Rps, Rp]
    exact ⟨trivial, ints_rps ns⟩
theorem intsOf_eqV : ∀ {ys : List D} {ns : List Int}, intsOf ys = some ns → ys = ns.map D.int
  | [], ns, h => by cases h; rfl
  | .int i :: r, ns, h => by
    have h : (intsOf r).map (fun ns => i :: ns) = some ns := h
    cases e : intsOf r with
    | none => rw [e] at h; cases h
    | some ms => rw [e] at h; cases h; rw [List.map_cons, intsOf_eqV e]
  | .non :: _, _, h => by cases h
  | .bl _ :: _, _, h => by cases h
  | .str _ :: _, _, h => by cases h
  | .tup _ :: _, _, h => by cases h
  | .wtup _ :: _, _, h => by cases h
  | .rol _ :: _, _, h => by cases h
  | .loc _ :: _, _, h => by cases h
  | .exv .. :: _, _, h => by cases h
mutual
/-- of data there is but one -/
theorem rp_plain : ∀ {d y : D}, plain y = true → Rp A μ d y → d = y
  | d, .non, _, k => rp_non.mp k
  | d, .bl _, _, k => rp_bl.mp k
  | d, .int _, _, k => rp_int.mp k
  | d, .str _, _, k => rp_str.mp k
  | d, .tup ys, h, k => by
    obtain ⟨xs, rfl, k⟩ := rp_tup.mp k
    simp only [plain] at h
    rw [rps_plain h k]
  | d, .rol _, h, _ => by simp [plain] at h
  | d, .loc _, h, _ => by simp [plain] at h
  | d, .wtup _, h, _ => by simp [plain] at h
  | d, .exv .., h, _ => by simp [plain] at h
theorem rps_plain : ∀ {xs ys : List D}, plainL ys = true → Rps A μ xs ys → xs = ys
  | [], [], _, _ => rfl
  | x :: xs, y :: ys, h, k => by
    simp only [plainL, Bool.and_eq_true] at h
    simp only [Rps] at k
    rw [rp_plain h.1 k.1, rps_plain h.2 k.2]
  | [], _ :: _, _, k => by simp [Rps] at k
  | _ :: _, [], _, k => by simp [Rps] at k
end
mutual
theorem plain_rp : ∀ {y : D}, plain y = true → Rp A μ y y
  | .non, _ => by simp [Rp]
  | .bl _, _ => by simp [Rp]
  | .int _, _ => by simp [Rp]
  | .str _, _ => by simp [Rp]
  | .tup ys, h => by
    simp only [plain] at h
    simp only [Rp]
    exact plain_rps h
  | .rol _, h => by simp [plain] at h
  | .loc _, h => by simp [plain] at h
  | .wtup _, h => by simp [plain] at h
  | .exv .., h => by simp [plain] at h
theorem plain_rps : ∀ {ys : List D}, plainL ys = true → Rps A μ ys ys
  | [], _ => by simp [Rps]
  | y :: ys, h => by
    simp only [plainL, Bool.and_eq_true] at h
    simp only [Rps]
    exact ⟨plain_rp h.1, plain_rps h.2⟩
end
end

/-! ### the pool of draws -/
structure Po where
  root : Nat
  cell : Nat → Prop
  ok : Sto → Prop
  keep : ∀ μ μ', ok μ → (∀ a o, cell a → μ a = some o → μ' a = some o) → ok μ'
  dom : ∀ μ a, ok μ → cell a → μ a ≠ none

/-- with the places that a def's caller holds -/
structure Pl extends Po where
  lent : Nat → Prop

/-- how a name is kept: data or a list that stays (s), an own list (o), what a parameter is read for (b), the pool (u), an own list that is walked (k) -/
inductive Md where
  | s | o | b | u (K : Po → Prop) | k (d y : D)
/-- of what kind a result is: readable (b), to be kept (s), new (f), the pool (u) -/
inductive Kl where
  | b | s | f | u (K : Po → Prop)

def Own (M : Nat → Md) (ρ σ : Ev) (a : Nat) : Prop := ∃ i ys, M i = .o ∧ look σ i = some (.rol ys) ∧ look ρ i = some (.loc a)
def Av (X : Nat → Prop) (M : Nat → Md) (ρ σ : Ev) (a : Nat) : Prop := X a ∨ Own M ρ σ a
def Rb (A : Nat → Prop) (U : Pl) (μ : Sto) (d y : D) : Prop := Rp A μ d y ∨ ∃ p ds ys, d = .loc p ∧ y = .rol ys ∧ A p ∧ ¬ U.cell p ∧ μ p = some (.lst ds) ∧ Rps A μ ds ys
def Rf (A : Nat → Prop) (μ0 μ : Sto) (d y : D) : Prop := match y with
  | .rol ys => ∃ p ds, d = .loc p ∧ μ0 p = none ∧ μ p = some (.lst ds) ∧ Rps (fun a => A a ∨ a = p) μ ds ys
  | y => Rp A μ d y
def Cls (c : Kl) (A : Nat → Prop) (U : Pl) (μ0 μ : Sto) (d y : D) : Prop := match c with
  | .b => Rb A U μ d y
  | .s => Rp A μ d y
  | .f => Rf A μ0 μ d y
  | .u K => d = .loc U.root ∧ y = .non ∧ K U.toPo
/-- all but the pool stays -/
def FrU (U : Pl) (μ μ' : Sto) : Prop := ∀ a o, ¬ U.cell a → μ a = some o → μ' a = some o
theorem FrU.refl {U : Pl} (μ : Sto) : FrU U μ μ := fun _ _ _ h => h
theorem FrU.trans {U : Pl} {a b c : Sto} (h : FrU U a b) (k : FrU U b c) : FrU U a c := fun x o n e => k x o n (h x o n e)
theorem Sub.fru {U : Pl} {μ μ' : Sto} (h : Sub μ μ') : FrU U μ μ' := fun a o _ e => h a o e
theorem Sub.ok {U : Pl} {μ μ' : Sto} (h : Sub μ μ') (k : U.ok μ) : U.ok μ' := U.keep _ _ k fun a o _ e => h a o e
theorem FrU.un {U : Pl} {μ μ' : Sto} (F : FrU U μ μ') (k : U.ok μ') {p : Nat} (h : μ' p = none) : μ p = none := by
  cases e : μ p with
  | none => rfl
  | some o =>
    by_cases c : U.cell p
    · exact absurd h (U.dom _ _ k c)
    · rw [F p o c e] at h; cases h

def slotR (X : Nat → Prop) (A : Nat → Prop) (U : Pl) (B μ : Sto) (m : Md) (od : Option D) (y : D) : Prop := match m with
  | .s => ∃ d, od = some d ∧ Rp A μ d y
  | .b => ∃ d, od = some d ∧ (Rp A μ d y ∨ ∃ p ds ys, d = .loc p ∧ y = .rol ys ∧ U.lent p ∧ B p = some (.lst ds) ∧ Rps A μ ds ys)
  | .o => match y with
    | .rol ys => ∃ p ds, od = some (.loc p) ∧ μ p = some (.lst ds) ∧ Rps A μ ds ys ∧ ¬ X p ∧ B p = none
    | y => ∃ d, od = some d ∧ Rp A μ d y
  | .u K => od = some (.loc U.root) ∧ y = .non ∧ K U.toPo
  | .k d0 y0 => y = y0 ∧ od = some d0 ∧ ∃ p ds ys, d0 = .loc p ∧ y0 = .rol ys ∧ X p ∧ B p = some (.lst ds) ∧ Rps A μ ds ys

structure St (X : Nat → Prop) (M : Nat → Md) (U : Pl) (B : Sto) (ρ : Ev) (μ : Sto) (σ : Ev) : Prop where
  len : ρ.length = σ.length
  sl : ∀ i y, look σ i = some y → slotR X (Av X M ρ σ) U B μ (M i) (look ρ i) y
  fr : Sub B μ
  ok : U.ok μ
  bu : ∀ a, U.cell a → B a = none
  ux : ∀ a, U.cell a → X a
  lx : ∀ a, U.lent a → X a
  xd : ∀ a, X a → μ a ≠ none
  dj : ∀ i j ys zs a, M i = .o → M j = .o → look σ i = some (.rol ys) → look σ j = some (.rol zs) → look ρ i = some (.loc a) → look ρ j = some (.loc a) → i = j
  kp : ∀ i d y, M i = .k d y → look σ i = some y

theorem look_setV : ∀ {ρ : Ev} {i j : Nat} {x : Option D}, look (setE ρ i x) j = if i = j ∧ i < ρ.length then x else look ρ j
  | [], i, j, x => by simp [setE, look]
  | y :: r, 0, 0, x => by simp [setE, look]
  | y :: r, 0, j + 1, x => by simp [setE, look]
  | y :: r, i + 1, 0, x => by simp [setE, look]
  | y :: r, i + 1, j + 1, x => by simp [setE, look, look_setV]
theorem set_len : ∀ {ρ : Ev} {i : Nat} {x : Option D}, (setE ρ i x).length = ρ.length
  | [], _, _ => rfl
  | _ :: _, 0, _ => rfl
  | _ :: r, i + 1, _ => congrArg Nat.succ set_len
theorem look_lt : ∀ {ρ : Ev} {i : Nat} {d : D}, look ρ i = some d → i < ρ.length
  | [], _, _, h => by cases h
  | _ :: _, 0, _, _ => Nat.zero_lt_succ _
  | _ :: r, i + 1, d, h => Nat.succ_lt_succ (look_lt (ρ := r) h)
theorem look_self {ρ : Ev} {i : Nat} {x : Option D} (h : i < ρ.length) : look (setE ρ i x) i = x := by rw [look_setV, if_pos ⟨rfl, h⟩]
theorem look_other {ρ : Ev} {i j : Nat} {x : Option D} (h : i ≠ j) : look (setE ρ i x) j = look ρ j := by rw [look_setV, if_neg fun z => h z.1]

section
variable {X : Nat → Prop} {M : Nat → Md} {U : Pl} {B : Sto} {ρ σ : Ev} {μ μ' : Sto}
theorem St.avd (S : St X M U B ρ μ σ) {a : Nat} (h : Av X M ρ σ a) : μ a ≠ none := by
  rcases h with h | ⟨i, ys, h1, h2, h3⟩
  · exact S.xd a h
  · have := S.sl i _ h2
    rw [h1] at this
    obtain ⟨p, ds, k1, k2, _⟩ := this
    rw [h3] at k1
    cases k1
    rw [k2]
    intro z; cases z
theorem St.uav (S : St X M U B ρ μ σ) {a : Nat} (h : U.cell a) : Av X M ρ σ a := .inl (S.ux a h)
/-- what stands beside A stays -/
theorem St.rpF (S : St X M U B ρ μ σ) (F : FrU U μ μ') : ∀ p o, ¬ Av X M ρ σ p → μ p = some o → ¬ Av X M ρ σ p ∧ μ' p = some o := fun p o h e => ⟨h, F p o (fun c => h (S.uav c)) e⟩
theorem St.step (S : St X M U B ρ μ σ) (F : FrU U μ μ') (k : U.ok μ') : St X M U B ρ μ' σ := by
  have hB : Sub B μ' := fun a o e => F a o (fun c => by rw [S.bu a c] at e; cases e) (S.fr a o e)
  refine ⟨S.len, fun i y h => ?_, hB, k, S.bu, S.ux, S.lx, fun a h => ?_, S.dj, S.kp⟩
  · have z := S.sl i y h
    have st := S.rpF F
    cases hm : M i with
    | s =>
      rw [hm] at z
      obtain ⟨d, z1, z2⟩ := z
      exact ⟨d, z1, z2.step st⟩
    | b =>
      rw [hm] at z
      obtain ⟨d, z1, z2⟩ := z
      refine ⟨d, z1, ?_⟩
      rcases z2 with z2 | ⟨p, ds, ys, e1, e2, e3, e4, e5⟩
      · exact .inl (z2.step st)
      · exact .inr ⟨p, ds, ys, e1, e2, e3, e4, e5.step st⟩
    | o =>
      rw [hm] at z
      have g : ∀ y, (∃ d, look ρ i = some d ∧ Rp (Av X M ρ σ) μ d y) → ∃ d, look ρ i = some d ∧ Rp (Av X M ρ σ) μ' d y := fun y ⟨d, z1, z2⟩ => ⟨d, z1, z2.step st⟩
      cases y with
      | rol ys =>
        obtain ⟨p, ds, z1, z2, z3, z4, z5⟩ := z
        exact ⟨p, ds, z1, F p _ (fun c => z4 (S.ux p c)) z2, z3.step st, z4, z5⟩
      | _ => exact g _ z
    | u K => rw [hm] at z; exact z
    | k d0 y0 =>
      rw [hm] at z
      obtain ⟨z1, z2, p, ds, ys, e1, e2, e3, e4, e5⟩ := z
      exact ⟨z1, z2, p, ds, ys, e1, e2, e3, e4, e5.step st⟩
  · by_cases c : U.cell a
    · exact U.dom _ _ k c
    · cases e : μ a with
      | none => exact absurd e (S.xd a h)
      | some o => rw [F a o c e]; intro z; cases z
theorem Cls.step {c : Kl} {d y : D} (S : St X M U B ρ μ σ) (F : FrU U μ μ') (h : Cls c (Av X M ρ σ) U μ μ d y) : Cls c (Av X M ρ σ) U μ μ' d y := by
  have st := S.rpF F
  cases c with
  | b =>
    rcases h with h | ⟨p, ds, ys, e1, e2, e3, e4, e5, e6⟩
    · exact .inl (h.step st)
    · exact .inr ⟨p, ds, ys, e1, e2, e3, e4, F p _ e4 e5, e6.step st⟩
  | s => exact Rp.step st h
  | f =>
    have g : ∀ y, Rp (Av X M ρ σ) μ d y → Rp (Av X M ρ σ) μ' d y := fun y h => h.step st
    cases y with
    | rol ys =>
      obtain ⟨p, ds, e1, e2, e3, e4⟩ := h
      rw [e2] at e3; cases e3
    | _ => exact g _ h
  | u K => exact h
/-- class f, s, b: each is of the next one, too -/
theorem Rf.s {A : Nat → Prop} {μ0 : Sto} {d y : D} (hd : ∀ a, A a → μ0 a ≠ none) (h : Rf A μ0 μ d y) : Rp A μ d y := by
  cases y with
  | rol ys =>
    obtain ⟨p, ds, e1, e2, e3, e4⟩ := h
    refine rp_rol.mpr ⟨p, ds, e1, fun z => hd p z e2, e3, e4.step fun q o k1 k2 => ⟨fun z => k1 (.inl z), k2⟩⟩
  | _ => exact h
end
end PD
set_option linter.all false
/-! PDVSim: what the values ask is enough for the store: expressions. -/
namespace PD
open PySem
theorem Cls.fs {A : Nat → Prop} {U : Pl} {μ0 μ : Sto} {d y : D} (hd : ∀ a, A a → μ0 a ≠ none) (h : Cls .f A U μ0 μ d y) : Cls .s A U μ0 μ d y := Rf.s hd h
theorem Cls.sb {A : Nat → Prop} {U : Pl} {μ0 μ : Sto} {d y : D} (h : Cls .s A U μ0 μ d y) : Cls .b A U μ0 μ d y := .inl h
def ArgL (A : Nat → Prop) (U : Pl) (μ : Sto) : List Kl → List D → List D → Prop
  | [], [], [] => True
  | c :: cs, d :: ds, y :: ys => Cls c A U μ μ d y ∧ ArgL A U μ cs ds ys
  | _, _, _ => False
/-- an exception's fields -/
def XR (A : Nat → Prop) (μ : Sto) (e e' : Ex) : Prop := e.cls = e'.cls ∧ e.fs.map (·.1) = e'.fs.map (·.1) ∧ Rps A μ (e.fs.map (·.2)) (e'.fs.map (·.2))

section
variable (M : Nat → Md)
def SimE (c : Kl) (t : DE) (v : VE) : Prop := ∀ X U B ρ μ σ, St X M U B ρ μ σ → ∀ (QV : VQ) (EV : VX) (Q : QE) (E : QX), v σ QV EV →
  (∀ d y μ', QV y → FrU U μ μ' → U.ok μ' → Cls c (Av X M ρ σ) U μ μ' d y → Q d μ') → (∀ e e' μ', EV e' → FrU U μ μ' → U.ok μ' → XR (Av X M ρ σ) μ' e e' → E e μ') → t ρ μ Q E
def SimT (t : DT) (v : VT) : Prop := ∀ X U B ρ μ σ, St X M U B ρ μ σ → ∀ (QV : Bool → Prop) (EV : VX) (Q : QB) (E : QX), v σ QV EV →
  (∀ b μ', QV b → FrU U μ μ' → U.ok μ' → Q b μ') → (∀ e e' μ', EV e' → FrU U μ μ' → U.ok μ' → XR (Av X M ρ σ) μ' e e' → E e μ') → t ρ μ Q E
def SimA (cs : List Kl) (t : DA) (v : VA) : Prop := ∀ X U B ρ μ σ, St X M U B ρ μ σ → ∀ (QV : List D → Prop) (EV : VX) (Q : QA) (E : QX), v σ QV EV →
  (∀ ds ys μ', QV ys → FrU U μ μ' → U.ok μ' → ArgL (Av X M ρ σ) U μ' cs ds ys → Q ds μ') → (∀ e e' μ', EV e' → FrU U μ μ' → U.ok μ' → XR (Av X M ρ σ) μ' e e' → E e μ') → t ρ μ Q E
end
/-- an operator, a built-in function: the store stays, what is new stands beside -/
def Op1 (c : Kl) (g : U1) (h : W1) : Prop := ∀ (A : Nat → Prop) (U : Pl) (μ : Sto) (d y : D), (∀ a, A a → μ a ≠ none) → Cls .b A U μ μ d y → ∀ (QV : VQ) (Q : QE), h y QV → (∀ d' y' μ', QV y' → Sub μ μ' → Cls c A U μ μ' d' y' → Q d' μ') → g d μ Q
def Op2 (c : Kl) (g : U2) (h : W2) : Prop := ∀ (A : Nat → Prop) (U : Pl) (μ : Sto) (d y e z : D), (∀ a, A a → μ a ≠ none) → Cls .b A U μ μ d y → Cls .b A U μ μ e z → ∀ (QV : VQ) (Q : QE), h y z QV → (∀ d' y' μ', QV y' → Sub μ μ' → Cls c A U μ μ' d' y' → Q d' μ') → g d e μ Q
def OpA (cs : List Kl) (c : Kl) (g : UA) (h : WA) : Prop := ∀ (A : Nat → Prop) (U : Pl) (μ : Sto) (ds ys : List D), (∀ a, A a → μ a ≠ none) → ArgL A U μ cs ds ys → ∀ (QV : VQ) (Q : QE), h ys QV → (∀ d' y' μ', QV y' → Sub μ μ' → Cls c A U μ μ' d' y' → Q d' μ') → g ds μ Q
/-- a def: modes of its parameters, of what kind its result is -/
def FSim (cs : List Kl) (c : Kl) (p : Pr) (w : VPr) : Prop := ∀ (X : Nat → Prop) (U : Pl) (μ : Sto) (ds ys : List D), U.ok μ → (∀ a, U.cell a → X a) → (∀ a, X a → μ a ≠ none) → ArgL X U μ cs ds ys → ∀ (QV : VQ) (EV : VX) (Q : QE) (E : QX), w ys QV EV →
  (∀ d y μ', QV y → FrU U μ μ' → U.ok μ' → Cls c X U μ μ' d y → Q d μ') → (∀ e e' μ', EV e' → FrU U μ μ' → U.ok μ' → XR X μ' e e' → E e μ') → p ds μ Q E

theorem XR.step {A A' : Nat → Prop} {μ μ' : Sto} {e e' : Ex} (h : ∀ p o, ¬ A p → μ p = some o → ¬ A' p ∧ μ' p = some o) (k : XR A μ e e') : XR A' μ' e e' := ⟨k.1, k.2.1, k.2.2.step h⟩
section
variable {M : Nat → Md}
/-- a new list's place stays new from further back -/
theorem Cls.back {c : Kl} {X : Nat → Prop} {U : Pl} {B : Sto} {ρ σ : Ev} {μ μ1 μ' : Sto} {d y : D} (S : St X M U B ρ μ σ) (F : FrU U μ μ1) (k : U.ok μ1) (h : Cls c (Av X M ρ σ) U μ1 μ' d y) : Cls c (Av X M ρ σ) U μ μ' d y := by
  cases c with
  | f =>
    have g : ∀ y, Rp (Av X M ρ σ) μ' d y → Rp (Av X M ρ σ) μ' d y := fun y h => h
    cases y with
    | rol ys =>
      obtain ⟨p, ds, e1, e2, e3⟩ := h
      exact ⟨p, ds, e1, F.un k e2, e3⟩
    | _ => exact g _ h
  | _ => exact h
theorem se_fs {t : DE} {v : VE} (h : SimE M .f t v) : SimE M .s t v := fun X U B ρ μ σ S QV EV Q E hv q e =>
  h X U B ρ μ σ S QV EV Q E hv (fun d y μ' k F o c => q d y μ' k F o (c.fs fun a ha => S.avd ha)) e
theorem se_sb {t : DE} {v : VE} (h : SimE M .s t v) : SimE M .b t v := fun X U B ρ μ σ S QV EV Q E hv q e =>
  h X U B ρ μ σ S QV EV Q E hv (fun d y μ' k F o c => q d y μ' k F o c.sb) e
theorem se_fb {t : DE} {v : VE} (h : SimE M .f t v) : SimE M .b t v := se_sb (se_fs h)
theorem se_varS {i : Nat} (hm : M i = .s) : SimE M .s (dVar i) (vVar i) := fun X U B ρ μ σ S QV EV Q E hv q e => by
  unfold vVar at hv
  cases h : look σ i with
  | none => rw [h] at hv; exact hv.elim
  | some y =>
    rw [h] at hv
    have z := S.sl i y h
    rw [hm] at z
    obtain ⟨d, z1, z2⟩ := z
    show opt (look ρ i) _
    rw [z1]
    exact q d y μ hv (.refl _) S.ok z2
theorem se_varU {i : Nat} {K : Po → Prop} (hm : M i = .u K) : SimE M (.u K) (dVar i) (vVar i) := fun X U B ρ μ σ S QV EV Q E hv q e => by
  unfold vVar at hv
  cases h : look σ i with
  | none => rw [h] at hv; exact hv.elim
  | some y =>
    rw [h] at hv
    have z := S.sl i y h
    rw [hm] at z
    obtain ⟨z1, z2⟩ := z
    show opt (look ρ i) _
    rw [z1]
    exact q _ y μ hv (.refl _) S.ok ⟨rfl, z2⟩
theorem se_varB {i : Nat} (hm : match M i with | .u _ => False | _ => True) : SimE M .b (dVar i) (vVar i) := fun X U B ρ μ σ S QV EV Q E hv q e => by
  unfold vVar at hv
  cases h : look σ i with
  | none => rw [h] at hv; exact hv.elim
  | some y =>
    rw [h] at hv
    have z := S.sl i y h
    have goal : ∃ d, look ρ i = some d ∧ Rb (Av X M ρ σ) U μ d y := by
      have nb : ∀ p (ds : List D), B p = some (.lst ds) → ¬ U.cell p ∧ μ p = some (.lst ds) := fun p ds e => ⟨fun c => (by rw [S.bu p c] at e; cases e), S.fr _ _ e⟩
      cases hk : M i with
      | s =>
        rw [hk] at z
        obtain ⟨d, z1, z2⟩ := z
        exact ⟨d, z1, .inl z2⟩
      | b =>
        rw [hk] at z
        obtain ⟨d, z1, z2⟩ := z
        refine ⟨d, z1, ?_⟩
        rcases z2 with z2 | ⟨p, ds, ys, e1, e2, e3, e4, e5⟩
        · exact .inl z2
        · exact .inr ⟨p, ds, ys, e1, e2, .inl (S.lx p e3), (nb p ds e4).1, (nb p ds e4).2, e5⟩
      | o =>
        rw [hk] at z
        cases y with
        | rol ys =>
          obtain ⟨p, ds, z1, z2, z3, z4, z5⟩ := z
          exact ⟨_, z1, .inr ⟨p, ds, ys, rfl, rfl, .inr ⟨i, ys, hk, h, z1⟩, fun c => z4 (S.ux p c), z2, z3⟩⟩
        | _ =>
          obtain ⟨d, z1, z2⟩ := z
          exact ⟨d, z1, .inl z2⟩
      | u K => rw [hk] at hm; exact hm.elim
      | k d0 y0 =>
        rw [hk] at z
        obtain ⟨z1, z2, p, ds, ys, e1, e2, e3, e4, e5⟩ := z
        subst z1
        exact ⟨d0, z2, .inr ⟨p, ds, ys, e1, e2, .inl e3, (nb p ds e4).1, (nb p ds e4).2, e5⟩⟩
    obtain ⟨d, z1, z2⟩ := goal
    show opt (look ρ i) _
    rw [z1]
    exact q d y μ hv (.refl _) S.ok z2
theorem se_c {x : D} (h : plain x = true) : SimE M .f (dC x) (vC x) := fun X U B ρ μ σ S QV EV Q E hv q e => by
  refine q x x μ hv (.refl _) S.ok ?_
  have z : Rp (Av X M ρ σ) μ x x := plain_rp h
  cases x with
  | rol ys => simp [plain] at h
  | _ => exact z
theorem se_1 {c : Kl} {g : U1} {w : W1} {t : DE} {v : VE} (ho : Op1 c g w) (h : SimE M .b t v) : SimE M c (d1 g t) (v1 w v) := fun X U B ρ μ σ S QV EV Q E hv q e => by
  refine h X U B ρ μ σ S _ EV _ _ hv (fun d y μ1 k F o c1 => ?_) e
  have S1 := S.step F o
  refine ho _ U μ1 d y (fun a ha => S1.avd ha) c1 _ _ k fun d' y' μ2 k2 s2 c2 => ?_
  exact q d' y' μ2 k2 (F.trans s2.fru) (s2.ok o) (c2.back S F o)
theorem se_2 {c : Kl} {g : U2} {w : W2} {t u : DE} {v v' : VE} (ho : Op2 c g w) (h : SimE M .b t v) (h' : SimE M .b u v') : SimE M c (d2 g t u) (v2 w v v') := fun X U B ρ μ σ S QV EV Q E hv q e => by
  refine h X U B ρ μ σ S _ EV _ _ hv (fun d y μ1 k F o c1 => ?_) e
  have S1 := S.step F o
  refine h' X U B ρ μ1 σ S1 _ EV _ _ k (fun d2 y2 μ2 k2 F2 o2 c2 => ?_) (fun x x' μ2 k2 F2 o2 c2 => e x x' μ2 k2 (F.trans F2) o2 c2)
  have S2 := S1.step F2 o2
  refine ho _ U μ2 d y d2 y2 (fun a ha => S2.avd ha) (Cls.step (c := .b) (μ := μ1) S1 F2 c1) c2 _ _ k2 fun d' y' μ3 k3 s3 c3 => ?_
  exact q d' y' μ3 k3 ((F.trans F2).trans s3.fru) (s3.ok o2) (c3.back S (F.trans F2) o2)
theorem ArgL.step {X : Nat → Prop} {U : Pl} {B : Sto} {ρ σ : Ev} {μ μ' : Sto} (S : St X M U B ρ μ σ) (F : FrU U μ μ') : ∀ {cs : List Kl} {ds ys : List D}, (∀ c ∈ cs, c ≠ .f) → ArgL (Av X M ρ σ) U μ cs ds ys → ArgL (Av X M ρ σ) U μ' cs ds ys
  | [], [], [], _, _ => trivial
  | c :: cs, d :: ds, y :: ys, hc, h => by
    refine ⟨?_, ArgL.step S F (fun c hc' => hc c (List.mem_cons_of_mem _ hc')) h.2⟩
    have z := Cls.step S F h.1
    cases c with
    | f => exact absurd rfl (hc _ (List.mem_cons_self ..))
    | _ => exact z
theorem sa_nil : SimA M [] dNil vNil := fun X U B ρ μ σ S QV EV Q E hv q e => q [] [] μ hv (.refl _) S.ok trivial
theorem sa_cons {c : Kl} {cs : List Kl} {t : DE} {v : VE} {r : DA} {w : VA} (hc : match c with | .f => False | _ => True) (h : SimE M c t v) (hr : SimA M cs r w) : SimA M (c :: cs) (dCons t r) (vCons v w) := fun X U B ρ μ σ S QV EV Q E hv q e => by
  refine h X U B ρ μ σ S _ EV _ _ hv (fun d y μ1 k F o c1 => ?_) e
  have S1 := S.step F o
  refine hr X U B ρ μ1 σ S1 _ EV _ _ k (fun ds ys μ2 k2 F2 o2 c2 => ?_) (fun x x' μ2 k2 F2 o2 c2 => e x x' μ2 k2 (F.trans F2) o2 c2)
  refine q _ _ μ2 k2 (F.trans F2) o2 ⟨?_, c2⟩
  cases c with
  | f => exact hc.elim
  | b => exact Cls.step (c := .b) (μ := μ1) S1 F2 c1
  | s => exact Cls.step (c := .s) (μ := μ1) S1 F2 c1
  | u K => exact c1
theorem se_args {cs : List Kl} {c : Kl} {g : UA} {w : WA} {t : DA} {v : VA} (ho : OpA cs c g w) (h : SimA M cs t v) : SimE M c (dArgs g t) (vArgs w v) := fun X U B ρ μ σ S QV EV Q E hv q e => by
  refine h X U B ρ μ σ S _ EV _ _ hv (fun ds ys μ1 k F o c1 => ?_) e
  have S1 := S.step F o
  refine ho _ U μ1 ds ys (fun a ha => S1.avd ha) c1 _ _ k fun d' y' μ2 k2 s2 c2 => ?_
  exact q d' y' μ2 k2 (F.trans s2.fru) (s2.ok o) (c2.back S F o)
theorem se_call {cs : List Kl} {c : Kl} {p : Pr} {w : VPr} {t : DA} {v : VA} (hf : FSim cs c p w) (h : SimA M cs t v) : SimE M c (dCall p t) (vCall w v) := fun X U B ρ μ σ S QV EV Q E hv q e => by
  refine h X U B ρ μ σ S _ EV _ _ hv (fun ds ys μ1 k F o c1 => ?_) e
  have S1 := S.step F o
  refine hf (Av X M ρ σ) U μ1 ds ys o (fun a ha => S.uav ha) (fun a ha => S1.avd ha) c1 _ _ _ _ k (fun d' y' μ2 k2 F2 o2 c2 => ?_) fun x x' μ2 k2 F2 o2 c2 => e x x' μ2 k2 (F.trans F2) o2 c2
  exact q d' y' μ2 k2 (F.trans F2) o2 (c2.back S F o)
/-! ### tests -/
theorem b_bool {A : Nat → Prop} {U : Pl} {μ0 μ : Sto} {d : D} {b : Bool} (h : Cls .b A U μ0 μ d (.bl b)) : d = .bl b := by
  rcases h with h | ⟨p, ds, ys, _, e, _⟩
  · exact rp_bl.mp h
  · cases e
theorem st_test {t : DE} {v : VE} (h : SimE M .b t v) : SimT M (dTest t) (vTest v) := fun X U B ρ μ σ S QV EV Q E hv q e => by
  refine h X U B ρ μ σ S _ EV _ _ hv (fun d y μ1 k F o c1 => ?_) e
  cases y with
  | bl b => rw [b_bool c1]; exact q b μ1 k F o
  | _ => exact k.elim
theorem st_and {t u : DT} {v w : VT} (h : SimT M t v) (h' : SimT M u w) : SimT M (dAndT t u) (vAndT v w) := fun X U B ρ μ σ S QV EV Q E hv q e => by
  refine h X U B ρ μ σ S _ EV _ _ hv (fun b μ1 k F o => ?_) e
  have S1 := S.step F o
  cases b with
  | true => exact h' X U B ρ μ1 σ S1 _ EV _ _ k (fun b μ2 k2 F2 o2 => q b μ2 k2 (F.trans F2) o2) fun x x' μ2 k2 F2 o2 c2 => e x x' μ2 k2 (F.trans F2) o2 c2
  | false => exact q false μ1 k F o
theorem st_or {t u : DT} {v w : VT} (h : SimT M t v) (h' : SimT M u w) : SimT M (dOrT t u) (vOrT v w) := fun X U B ρ μ σ S QV EV Q E hv q e => by
  refine h X U B ρ μ σ S _ EV _ _ hv (fun b μ1 k F o => ?_) e
  have S1 := S.step F o
  cases b with
  | false => exact h' X U B ρ μ1 σ S1 _ EV _ _ k (fun b μ2 k2 F2 o2 => q b μ2 k2 (F.trans F2) o2) fun x x' μ2 k2 F2 o2 c2 => e x x' μ2 k2 (F.trans F2) o2 c2
  | true => exact q true μ1 k F o
theorem st_not {t : DT} {v : VT} (h : SimT M t v) : SimT M (dNotT t) (vNotT v) := fun X U B ρ μ σ S QV EV Q E hv q e =>
  h X U B ρ μ σ S _ EV _ _ hv (fun b μ1 k F o => q (!b) μ1 k F o) e
theorem st_yes : SimT M tYes vYes := fun X U B ρ μ σ S QV EV Q E hv q e => q true μ hv (.refl _) S.ok
theorem cls_bl {c : Kl} {A : Nat → Prop} {U : Pl} {μ0 μ : Sto} {b : Bool} (hc : match c with | .u _ => False | _ => True) : Cls c A U μ0 μ (.bl b) (.bl b) := by
  cases c with
  | u K => exact hc.elim
  | b => exact .inl (rp_bl.mpr rfl)
  | s => exact (rp_bl (A := A) (μ := μ)).mpr rfl
  | f => exact (rp_bl (A := A) (μ := μ)).mpr rfl
theorem se_and {c : Kl} {t u : DE} {v w : VE} (hc : match c with | .u _ => False | _ => True) (h : SimE M .b t v) (h' : SimE M c u w) : SimE M c (dAndV t u) (vAndV v w) := fun X U B ρ μ σ S QV EV Q E hv q e => by
  refine h X U B ρ μ σ S _ EV _ _ hv (fun d y μ1 k F o c1 => ?_) e
  have S1 := S.step F o
  cases y with
  | bl b =>
    rw [b_bool c1]
    cases b with
    | true => exact h' X U B ρ μ1 σ S1 _ EV _ _ k (fun d y μ2 k2 F2 o2 c2 => q d y μ2 k2 (F.trans F2) o2 (c2.back S F o)) fun x x' μ2 k2 F2 o2 c2 => e x x' μ2 k2 (F.trans F2) o2 c2
    | false => exact q _ _ μ1 k F o (cls_bl hc)
  | _ => exact k.elim
theorem se_or {c : Kl} {t u : DE} {v w : VE} (hc : match c with | .u _ => False | _ => True) (h : SimE M .b t v) (h' : SimE M c u w) : SimE M c (dOrV t u) (vOrV v w) := fun X U B ρ μ σ S QV EV Q E hv q e => by
  refine h X U B ρ μ σ S _ EV _ _ hv (fun d y μ1 k F o c1 => ?_) e
  have S1 := S.step F o
  cases y with
  | bl b =>
    rw [b_bool c1]
    cases b with
    | false => exact h' X U B ρ μ1 σ S1 _ EV _ _ k (fun d y μ2 k2 F2 o2 c2 => q d y μ2 k2 (F.trans F2) o2 (c2.back S F o)) fun x x' μ2 k2 F2 o2 c2 => e x x' μ2 k2 (F.trans F2) o2 c2
    | true => exact q _ _ μ1 k F o (cls_bl hc)
  | _ => exact k.elim
theorem se_not {t : DE} {v : VE} (h : SimE M .b t v) : SimE M .f (dNotV t) (vNotV v) := fun X U B ρ μ σ S QV EV Q E hv q e => by
  refine h X U B ρ μ σ S _ EV _ _ hv (fun d y μ1 k F o c1 => ?_) e
  cases y with
  | bl b => rw [b_bool c1]; exact q _ _ μ1 k F o (cls_bl trivial)
  | _ => exact k.elim
theorem se_if {c : Kl} {tt : DT} {vt : VT} {t u : DE} {v w : VE} (hc : SimT M tt vt) (h : SimE M c t v) (h' : SimE M c u w) : SimE M c (dIf tt t u) (vIf vt v w) := fun X U B ρ μ σ S QV EV Q E hv q e => by
  refine hc X U B ρ μ σ S _ EV _ _ hv (fun b μ1 k F o => ?_) e
  have S1 := S.step F o
  cases b with
  | true => exact h X U B ρ μ1 σ S1 _ EV _ _ k (fun d y μ2 k2 F2 o2 c2 => q d y μ2 k2 (F.trans F2) o2 (c2.back S F o)) fun x x' μ2 k2 F2 o2 c2 => e x x' μ2 k2 (F.trans F2) o2 c2
  | false => exact h' X U B ρ μ1 σ S1 _ EV _ _ k (fun d y μ2 k2 F2 o2 c2 => q d y μ2 k2 (F.trans F2) o2 (c2.back S F o)) fun x x' μ2 k2 F2 o2 c2 => e x x' μ2 k2 (F.trans F2) o2 c2
theorem se_chain {g g' : U2} {w w' : W2} {t u z : DE} {v v' v'' : VE} (ho : Op2 .f g w) (ho' : Op2 .f g' w') (h : SimE M .b t v) (h' : SimE M .b u v') (h'' : SimE M .b z v'') : SimE M .f (dChain g g' t u z) (vChain w w' v v' v'') := fun X U B ρ μ σ S QV EV Q E hv q e => by
  refine h X U B ρ μ σ S _ EV _ _ hv (fun d y μ1 k F o c1 => ?_) e
  have S1 := S.step F o
  refine h' X U B ρ μ1 σ S1 _ EV _ _ k (fun d2 y2 μ2 k2 F2 o2 c2 => ?_) (fun x x' μ2 k2 F2 o2 c2 => e x x' μ2 k2 (F.trans F2) o2 c2)
  have S2 := S1.step F2 o2
  have F12 := F.trans F2
  refine ho _ U μ2 d y d2 y2 (fun a ha => S2.avd ha) (Cls.step (c := .b) (μ := μ1) S1 F2 c1) c2 _ _ k2 fun d3 y3 μ3 k3 s3 c3 => ?_
  cases y3 with
  | bl b =>
    rw [b_bool (c3.fs fun a ha => S2.avd ha).sb]
    have o3 := s3.ok o2
    have S3 := S2.step s3.fru o3
    cases b with
    | false => exact q _ _ μ3 k3 (F12.trans s3.fru) o3 (cls_bl trivial)
    | true =>
      refine h'' X U B ρ μ3 σ S3 _ EV _ _ k3 (fun d4 y4 μ4 k4 F4 o4 c4 => ?_) (fun x x' μ4 k4 F4 o4 c4 => e x x' μ4 k4 ((F12.trans s3.fru).trans F4) o4 c4)
      have S4 := S3.step F4 o4
      refine ho' _ U μ4 d2 y2 d4 y4 (fun a ha => S4.avd ha) (Cls.step (c := .b) (μ := μ3) S3 F4 (Cls.step (c := .b) (μ := μ2) S2 s3.fru c2)) c4 _ _ k4 fun d5 y5 μ5 k5 s5 c5 => ?_
      have FF := (F12.trans s3.fru).trans F4
      exact q d5 y5 μ5 k5 (FF.trans s5.fru) (s5.ok o4) (c5.back S FF o4)
  | _ => exact k3.elim
theorem argL_rps {A : Nat → Prop} {U : Pl} {μ : Sto} : ∀ {cs : List Kl} {ds ys : List D}, (cs.all fun c => match c with | .s => true | _ => false) = true → ArgL A U μ cs ds ys → Rps A μ ds ys
  | [], [], [], _, _ => by simp [Rps]
  | .s :: cs, d :: ds, y :: ys, hc, h => by
    simp only [Rps]
    exact ⟨h.1, argL_rps (by simpa using hc) h.2⟩
theorem se_tup {cs : List Kl} {t : DA} {v : VA} (hc : (cs.all fun c => match c with | .s => true | _ => false) = true) (h : SimA M cs t v) : SimE M .f (dTup t) (vTup v) := fun X U B ρ μ σ S QV EV Q E hv q e => by
  refine h X U B ρ μ σ S _ EV _ _ hv (fun ds ys μ1 k F o c1 => ?_) e
  have r := argL_rps hc c1
  refine ⟨by rw [r.len]; exact k.1, q _ _ μ1 k.2 F o ?_⟩
  exact rp_tup.mpr ⟨_, rfl, r⟩
theorem new_list {A : Nat → Prop} {μ : Sto} {p : Nat} {ds ys : List D} (hp : μ p = none) (r : Rps A μ ds ys) : Rf A μ (put μ p (.lst ds)) (.loc p) (.rol ys) := by
  refine ⟨p, ds, rfl, hp, put_same, r.step fun a o h e => ?_⟩
  have : a ≠ p := by intro z; subst z; rw [hp] at e; cases e
  exact ⟨fun z => z.elim h this, by rw [put_ne this]; exact e⟩
theorem sub_new {μ : Sto} {p : Nat} {o : O} (hp : μ p = none) : Sub μ (put μ p o) := (Sub.refl μ).new hp
theorem se_lst {cs : List Kl} {t : DA} {v : VA} (hc : (cs.all fun c => match c with | .s => true | _ => false) = true) (h : SimA M cs t v) : SimE M .f (dLst t) (vLst v) := fun X U B ρ μ σ S QV EV Q E hv q e => by
  refine h X U B ρ μ σ S _ EV _ _ hv (fun ds ys μ1 k F o c1 => ?_) e
  have r := argL_rps hc c1
  refine ⟨by rw [r.len]; exact k.1, fun p hp => q _ _ _ k.2 (F.trans (sub_new hp).fru) ((sub_new hp).ok o) ?_⟩
  exact Cls.back (c := .f) S F o (new_list hp r)
theorem cut_ok {A : Nat → Prop} {U : Pl} {μ : Sto} {d y : D} {lo hi : Option Int} {QV : VQ} {Q : QE} (h : Cls .b A U μ μ d y) (k : cutV y lo hi QV) (q : ∀ d' y' μ', QV y' → Sub μ μ' → Cls .f A U μ μ' d' y' → Q d' μ') : cutR d lo hi μ Q := by
  have two : ∀ {p : Nat} {ds ys : List D}, μ p = some (.lst ds) → Rps A μ ds ys → QV (.rol (cutL ys lo hi)) → cutR (.loc p) lo hi μ Q := fun {p ds ys} e r k => by
    show opt (lstAt μ p) _
    rw [lstAt_of e]
    exact fun l hl => q _ _ _ k (sub_new hl) (new_list hl (r.cut lo hi))
  cases y with
  | tup ys =>
    rcases h with h | ⟨_, _, _, _, e, _⟩
    · obtain ⟨xs, rfl, r⟩ := rp_tup.mp h
      exact q _ _ μ k (.refl _) (rp_tup.mpr ⟨_, rfl, r.cut lo hi⟩)
    · cases e
  | rol ys =>
    rcases h with h | ⟨p, ds, zs, rfl, e, _, _, e2, r⟩
    · obtain ⟨p, xs, rfl, _, e, r⟩ := rp_rol.mp h
      exact two e r k
    · cases e; exact two e2 r k
  | _ => exact k.elim
theorem b_int {A : Nat → Prop} {U : Pl} {μ0 μ : Sto} {d : D} {b : Int} (h : Cls .b A U μ0 μ d (.int b)) : d = .int b := by
  rcases h with h | ⟨p, ds, ys, _, e, _⟩
  · exact rp_int.mp h
  · cases e
theorem asI_ok {A : Nat → Prop} {U : Pl} {μ0 μ : Sto} {d y : D} {R R' : Int → Prop} (h : Cls .b A U μ0 μ d y) (k : asI y R) (m : ∀ i, R i → R' i) : asI d R' := by
  cases y with
  | int i => rw [b_int h]; exact m i k
  | _ => exact k.elim
theorem se_cut00 {t : DE} {v : VE} (h : SimE M .b t v) : SimE M .f (dCut t none none) (vCut v none none) := fun X U B ρ μ σ S QV EV Q E hv q e => by
  refine h X U B ρ μ σ S _ EV _ _ hv (fun d y μ1 k F o c1 => ?_) e
  exact cut_ok c1 k fun d' y' μ2 k2 s2 c2 => q _ _ _ k2 (F.trans s2.fru) (s2.ok o) (Cls.back (c := .f) S F o c2)
theorem se_cut01 {t u : DE} {v w : VE} (h : SimE M .b t v) (h' : SimE M .b u w) : SimE M .f (dCut t none (some u)) (vCut v none (some w)) := fun X U B ρ μ σ S QV EV Q E hv q e => by
  refine h X U B ρ μ σ S _ EV _ _ hv (fun d y μ1 k F o c1 => ?_) e
  have S1 := S.step F o
  refine h' X U B ρ μ1 σ S1 _ EV _ _ k (fun d2 y2 μ2 k2 F2 o2 c2 => ?_) (fun x x' μ2 k2 F2 o2 c2 => e x x' μ2 k2 (F.trans F2) o2 c2)
  refine asI_ok c2 k2 fun i k3 => ?_
  exact cut_ok (Cls.step (c := .b) (μ := μ1) S1 F2 c1) k3 fun d' y' μ3 k4 s3 c3 => q _ _ _ k4 ((F.trans F2).trans s3.fru) (s3.ok o2) (Cls.back (c := .f) S (F.trans F2) o2 c3)
theorem se_cut10 {t u : DE} {v w : VE} (h : SimE M .b t v) (h' : SimE M .b u w) : SimE M .f (dCut t (some u) none) (vCut v (some w) none) := fun X U B ρ μ σ S QV EV Q E hv q e => by
  refine h X U B ρ μ σ S _ EV _ _ hv (fun d y μ1 k F o c1 => ?_) e
  have S1 := S.step F o
  refine h' X U B ρ μ1 σ S1 _ EV _ _ k (fun d2 y2 μ2 k2 F2 o2 c2 => ?_) (fun x x' μ2 k2 F2 o2 c2 => e x x' μ2 k2 (F.trans F2) o2 c2)
  refine asI_ok c2 k2 fun i k3 => ?_
  exact cut_ok (Cls.step (c := .b) (μ := μ1) S1 F2 c1) k3 fun d' y' μ3 k4 s3 c3 => q _ _ _ k4 ((F.trans F2).trans s3.fru) (s3.ok o2) (Cls.back (c := .f) S (F.trans F2) o2 c3)
theorem se_cut11 {t u u' : DE} {v w w' : VE} (h : SimE M .b t v) (h' : SimE M .b u w) (h'' : SimE M .b u' w') : SimE M .f (dCut t (some u) (some u')) (vCut v (some w) (some w')) := fun X U B ρ μ σ S QV EV Q E hv q e => by
  refine h X U B ρ μ σ S _ EV _ _ hv (fun d y μ1 k F o c1 => ?_) e
  have S1 := S.step F o
  refine h' X U B ρ μ1 σ S1 _ EV _ _ k (fun d2 y2 μ2 k2 F2 o2 c2 => ?_) (fun x x' μ2 k2 F2 o2 c2 => e x x' μ2 k2 (F.trans F2) o2 c2)
  have S2 := S1.step F2 o2
  refine asI_ok c2 k2 fun i k3 => ?_
  refine h'' X U B ρ μ2 σ S2 _ EV _ _ k3 (fun d3 y3 μ3 k4 F3 o3 c3 => ?_) (fun x x' μ3 k4 F3 o3 c3 => e x x' μ3 k4 ((F.trans F2).trans F3) o3 c3)
  refine asI_ok c3 k4 fun j k5 => ?_
  have F123 := (F.trans F2).trans F3
  exact cut_ok (Cls.step (c := .b) (μ := μ1) S1 (F2.trans F3) c1) k5 fun d' y' μ4 k6 s4 c4 => q _ _ _ k6 (F123.trans s4.fru) (s4.ok o3) (Cls.back (c := .f) S F123 o3 c4)
theorem se_isi {T : Ty} {t : DE} {v : VE} (h : SimE M .b t v) : SimE M .f (dIsi T t) (vIsi T v) := fun X U B ρ μ σ S QV EV Q E hv q e => by
  refine h X U B ρ μ σ S _ EV _ _ hv (fun d y μ1 k F o c1 => ?_) e
  have z : isiOk d μ1 ∧ ∀ (h : ∀ a b ns ys, y ≠ .exv a b ns ys), isTy T d = isTy T y := by
    have two : ∀ {p : Nat} {ds : List D}, μ1 p = some (.lst ds) → isiOk (.loc p) μ1 := fun {p ds} e => by
      show (lstAt μ1 p).isSome = true
      rw [lstAt_of e]; rfl
    cases y with
    | rol ys =>
      rcases c1 with h | ⟨p, ds, zs, rfl, e, _, _, e2, r⟩
      · obtain ⟨p, xs, rfl, _, e, r⟩ := rp_rol.mp h
        exact ⟨two e, fun _ => by cases T <;> rfl⟩
      · exact ⟨two e2, fun _ => by cases T <;> rfl⟩
    | non =>
      rcases c1 with h | ⟨_, _, _, _, e, _⟩
      · rw [rp_non.mp h]; exact ⟨trivial, fun _ => rfl⟩
      · cases e
    | bl b =>
      rcases c1 with h | ⟨_, _, _, _, e, _⟩
      · rw [rp_bl.mp h]; exact ⟨trivial, fun _ => rfl⟩
      · cases e
    | int b =>
      rcases c1 with h | ⟨_, _, _, _, e, _⟩
      · rw [rp_int.mp h]; exact ⟨trivial, fun _ => rfl⟩
      · cases e
    | str b =>
      rcases c1 with h | ⟨_, _, _, _, e, _⟩
      · rw [rp_str.mp h]; exact ⟨trivial, fun _ => rfl⟩
      · cases e
    | tup b =>
      rcases c1 with h | ⟨_, _, _, _, e, _⟩
      · obtain ⟨xs, rfl, _⟩ := rp_tup.mp h; exact ⟨trivial, fun _ => by cases T <;> rfl⟩
      · cases e
    | wtup b =>
      rcases c1 with h | ⟨_, _, _, _, e, _⟩
      · obtain ⟨xs, rfl, _⟩ := rp_wtup.mp h; exact ⟨trivial, fun _ => by cases T <;> rfl⟩
      · cases e
    | loc a =>
      rcases c1 with h | ⟨_, _, _, _, e, _⟩
      · exact absurd h rp_loc
      · cases e
    | exv => exact k.elim
  refine ⟨z.1, ?_⟩
  have ny : ∀ a b ns ys, y ≠ .exv a b ns ys := fun a b ns ys e => by subst e; exact k
  rw [z.2 ny]
  have k2 : QV (.bl (isTy T y)) := by cases y <;> first | exact k | exact k.elim
  exact q _ _ μ1 k2 F o (cls_bl trivial)
theorem se_mLT {cs : List Kl} {c : Kl} {g : D → UA} {w : D → WA} {t : DE} {v : VE} {r : DA} {s : VA} (ho : ∀ (A : Nat → Prop) (U : Pl) (μ : Sto) (d y : D) (ds ys : List D), (∀ a, A a → μ a ≠ none) → Cls .b A U μ μ d y → ArgL A U μ cs ds ys → ∀ (QV : VQ) (Q : QE), w y ys QV → (∀ d' y' μ', QV y' → Sub μ μ' → Cls c A U μ μ' d' y' → Q d' μ') → g d ds μ Q)
    (h : SimE M .b t v) (hr : SimA M cs r s) : SimE M c (dMethLT g t r) (vMethLT w v s) := fun X U B ρ μ σ S QV EV Q E hv q e => by
  refine h X U B ρ μ σ S _ EV _ _ hv (fun d y μ1 k F o c1 => ?_) e
  have S1 := S.step F o
  have z : isLT d μ1 := by
    have two : ∀ {p : Nat} {ds : List D}, μ1 p = some (.lst ds) → isLT (.loc p) μ1 := fun {p ds} e => by
      show (lstAt μ1 p).isSome = true
      rw [lstAt_of e]; rfl
    cases y with
    | rol ys =>
      rcases c1 with h | ⟨p, ds, zs, rfl, e, _, _, e2, r⟩
      · obtain ⟨p, xs, rfl, _, e, r⟩ := rp_rol.mp h
        exact two e
      · exact two e2
    | tup ys =>
      rcases c1 with h | ⟨_, _, _, _, e, _⟩
      · obtain ⟨xs, rfl, r⟩ := rp_tup.mp h; trivial
      · cases e
    | _ => exact k.1.elim
  refine ⟨z, ?_⟩
  refine hr X U B ρ μ1 σ S1 _ EV _ _ k.2 (fun ds ys μ2 k2 F2 o2 c2 => ?_) (fun x x' μ2 k2 F2 o2 c2 => e x x' μ2 k2 (F.trans F2) o2 c2)
  have S2 := S1.step F2 o2
  refine ho _ U μ2 d y ds ys (fun a ha => S2.avd ha) (Cls.step (c := .b) (μ := μ1) S1 F2 c1) c2 _ _ k2 fun d' y' μ3 k3 s3 c3 => ?_
  exact q d' y' μ3 k3 ((F.trans F2).trans s3.fru) (s3.ok o2) (c3.back S (F.trans F2) o2)
theorem se_fld {a d : Nat} {f : Str} {t : DE} {v : VE} (h : SimE M .b t v) : SimE M .s (dFld a d f t) (vFld a d f v) := fun X U B ρ μ σ S QV EV Q E hv q e => by
  refine h X U B ρ μ σ S _ EV _ _ hv (fun x y μ1 k F o c1 => ?_) e
  cases y with
  | exv a' d' ns ys =>
    rcases c1 with h | ⟨_, _, _, _, e, _⟩
    · obtain ⟨xs, rfl, r⟩ := rp_exv.mp h
      refine ⟨k.1, ?_⟩
      have z : ∀ {ns : List Str} {xs ys : List D}, Rps (Av X M ρ σ) μ1 xs ys → opt ((ns.zip ys).lookup f) QV → opt ((ns.zip xs).lookup f) fun y => Q y μ1 := fun {ns} => by
        induction ns with
        | nil => intro xs ys _ h; simp at h
        | cons n ns ih =>
          intro xs ys r h
          cases ys with
          | nil => simp at h
          | cons y ys =>
            obtain ⟨x, xs', rfl, r1, r2⟩ := rps_cons.mp r
            rw [List.zip_cons_cons, List.lookup_cons] at h ⊢
            by_cases c : (f == n) = true
            · simp only [c] at h ⊢
              exact q _ _ μ1 h F o r1
            · simp only [Bool.eq_false_iff.mpr c] at h ⊢
              exact ih r2 h
      exact z r k.2
    · cases e
  | _ => exact k.elim
end
end PD
set_option linter.all false
/-! PDVOps: operators, built-in functions, methods: what the values ask is enough. -/
namespace PD
open PySem
section
variable {A : Nat → Prop} {U : Pl} {μ0 μ : Sto} {d : D}
theorem b_non (h : Cls .b A U μ0 μ d .non) : d = .non := by
  rcases h with h | ⟨p, ds, ys, _, e, _⟩
  · exact rp_non.mp h
  · cases e
theorem b_str {x : Str} (h : Cls .b A U μ0 μ d (.str x)) : d = .str x := by
  rcases h with h | ⟨p, ds, ys, _, e, _⟩
  · exact rp_str.mp h
  · cases e
theorem b_tup {ys : List D} (h : Cls .b A U μ0 μ d (.tup ys)) : ∃ xs, d = .tup xs ∧ Rps A μ xs ys := by
  rcases h with h | ⟨p, ds, ys, _, e, _⟩
  · exact rp_tup.mp h
  · cases e
theorem b_wtup {ys : List D} (h : Cls .b A U μ0 μ d (.wtup ys)) : ∃ xs, d = .wtup xs ∧ Rps A μ xs ys := by
  rcases h with h | ⟨p, ds, ys, _, e, _⟩
  · exact rp_wtup.mp h
  · cases e
theorem b_rol {ys : List D} (h : Cls .b A U μ0 μ d (.rol ys)) : ∃ p xs, d = .loc p ∧ lstAt μ p = some xs ∧ Rps A μ xs ys := by
  rcases h with h | ⟨p, ds, zs, e1, e, _, _, e2, r⟩
  · obtain ⟨p, xs, e1, _, e, r⟩ := rp_rol.mp h
    exact ⟨p, xs, e1, lstAt_of e, r⟩
  · cases e; exact ⟨p, ds, e1, lstAt_of e2, r⟩
theorem b_plain {y : D} (hp : plain y = true) (h : Cls .b A U μ0 μ d y) : d = y := by
  rcases h with h | ⟨p, ds, ys, _, e, _⟩
  · exact rp_plain hp h
  · subst e; simp [plain] at hp
theorem b_seq {y : D} {ys : List D} (h : Cls .b A U μ0 μ d y) (e : seqV y = some ys) : ∃ xs, seqOf d μ = some xs ∧ Rps A μ xs ys := by
  cases y with
  | tup zs => cases e; obtain ⟨xs, rfl, r⟩ := b_tup h; exact ⟨xs, rfl, r⟩
  | wtup zs => cases e; obtain ⟨xs, rfl, r⟩ := b_wtup h; exact ⟨xs, rfl, r⟩
  | rol zs => cases e; obtain ⟨p, xs, rfl, e, r⟩ := b_rol h; exact ⟨xs, e, r⟩
  | _ => cases e
theorem f_int {i : Int} : Cls .f A U μ0 μ (.int i) (.int i) := (rp_int (A := A) (μ := μ)).mpr rfl
theorem f_bl {i : Bool} : Cls .f A U μ0 μ (.bl i) (.bl i) := (rp_bl (A := A) (μ := μ)).mpr rfl
theorem f_str {i : Str} : Cls .f A U μ0 μ (.str i) (.str i) := (rp_str (A := A) (μ := μ)).mpr rfl
end
theorem op_add : Op2 .f uAdd oAdd := fun A U μ d y e z hA c1 c2 QV Q k q => by
  cases y with
  | int i => cases z with
    | int j => rw [b_int c1, b_int c2]; exact q _ _ μ k (.refl _) f_int
    | _ => exact k.elim
  | str i => cases z with
    | str j => rw [b_str c1, b_str c2]; exact ⟨k.1, q _ _ μ k.2 (.refl _) f_str⟩
    | _ => exact k.elim
  | tup i => cases z with
    | tup j =>
      obtain ⟨xs, rfl, r⟩ := b_tup c1
      obtain ⟨us, rfl, s⟩ := b_tup c2
      exact ⟨by rw [r.len, s.len]; exact k.1, q _ _ μ k.2 (.refl _) (rp_tup.mpr ⟨_, rfl, r.app s⟩)⟩
    | _ => exact k.elim
  | rol i => cases z with
    | rol j =>
      obtain ⟨a, xs, rfl, e1, r⟩ := b_rol c1
      obtain ⟨b, us, rfl, e2, s⟩ := b_rol c2
      show opt (lstAt μ a) _
      rw [e1]
      show opt (lstAt μ b) _
      rw [e2]
      exact ⟨by rw [r.len, s.len]; exact k.1, fun p hp => q _ _ _ k.2 (sub_new hp) (new_list hp (r.app s))⟩
    | _ => exact k.elim
  | _ => exact k.elim
theorem op_sub : Op2 .f uSub oSub := fun A U μ d y e z hA c1 c2 QV Q k q => by
  cases y with
  | int i => cases z with
    | int j => rw [b_int c1, b_int c2]; exact q _ _ μ k (.refl _) f_int
    | _ => exact k.elim
  | _ => exact k.elim
theorem op_mul : Op2 .f uMul oMul := fun A U μ d y e z hA c1 c2 QV Q k q => by
  cases y with
  | int i => cases z with
    | int j => rw [b_int c1, b_int c2]; exact ⟨k.1, q _ _ μ k.2 (.refl _) f_int⟩
    | _ => exact k.elim
  | rol i => cases z with
    | int j =>
      obtain ⟨a, xs, rfl, e1, r⟩ := b_rol c1
      rw [b_int c2]
      show opt (lstAt μ a) _
      rw [e1]
      exact ⟨by rw [r.len]; exact k.1, fun p hp => q _ _ _ k.2 (sub_new hp) (new_list hp (r.rep _))⟩
    | _ => exact k.elim
  | _ => exact k.elim
theorem op_div : Op2 .f uDiv oDiv := fun A U μ d y e z hA c1 c2 QV Q k q => by
  cases y with
  | int i => cases z with
    | int j => rw [b_int c1, b_int c2]; exact ⟨k.1, q _ _ μ k.2 (.refl _) f_int⟩
    | _ => exact k.elim
  | _ => exact k.elim
theorem op_mod : Op2 .f uMod oMod := fun A U μ d y e z hA c1 c2 QV Q k q => by
  cases y with
  | int i => cases z with
    | int j => rw [b_int c1, b_int c2]; exact ⟨k.1, q _ _ μ k.2 (.refl _) f_int⟩
    | _ => exact k.elim
  | _ => exact k.elim
theorem op_pow : Op2 .f uPow oPow := fun A U μ d y e z hA c1 c2 QV Q k q => by
  cases y with
  | int i => cases z with
    | int j => rw [b_int c1, b_int c2]; exact ⟨k.1, q _ _ μ k.2 (.refl _) f_int⟩
    | _ => exact k.elim
  | _ => exact k.elim
theorem op_shl : Op2 .f uShl oShl := fun A U μ d y e z hA c1 c2 QV Q k q => by
  cases y with
  | int i => cases z with
    | int j => rw [b_int c1, b_int c2]; exact ⟨k.1, q _ _ μ k.2 (.refl _) f_int⟩
    | _ => exact k.elim
  | _ => exact k.elim
theorem op_neg : Op1 .f uNeg oNeg := fun A U μ d y hA c1 QV Q k q => by
  cases y with
  | int i => rw [b_int c1]; exact q _ _ μ k (.refl _) f_int
  | _ => exact k.elim
theorem op_cmp (p : Int → Int → Bool) : Op2 .f (uCmp p) (oCmp p) := fun A U μ d y e z hA c1 c2 QV Q k q => by
  cases y with
  | int i => cases z with
    | int j => rw [b_int c1, b_int c2]; exact q _ _ μ k (.refl _) f_bl
    | _ => exact k.elim
  | _ => exact k.elim
theorem eqL_ok {xs : List D} (h : EqOkL xs) : plainL xs = true := h.1
theorem eq_ok {A : Nat → Prop} {U : Pl} {μ : Sto} {d y e z : D} {R R' : Bool → Prop} (c1 : Cls .b A U μ μ d y) (c2 : Cls .b A U μ μ e z) (k : eqV y z R) (m : ∀ b, R b → R' b) : eqR d e μ R' := by
  have two : ∀ (y z : D), (EqOk y ∧ EqOk z ∧ R (eqD y z)) → Cls .b A U μ μ d y → Cls .b A U μ μ e z → eqR d e μ R' := fun y z h c1 c2 => by
    have e1 := b_plain h.1.1 c1
    have e2 := b_plain h.2.1.1 c2
    subst e1 e2
    have n : ∀ a, d ≠ .loc a := fun a z => by subst z; simp [EqOk, plain] at h
    cases d with
    | loc a => exact absurd rfl (n a)
    | _ => exact ⟨h.1, h.2.1, m _ h.2.2⟩
  cases y with
  | rol ys => cases z with
    | rol zs =>
      obtain ⟨a, xs, rfl, e1, r⟩ := b_rol c1
      obtain ⟨b, us, rfl, e2, s⟩ := b_rol c2
      obtain ⟨k1, k2, k3⟩ := k
      have g1 := rps_plain k1.1 r
      have g2 := rps_plain k2.1 s
      subst g1 g2
      show opt (lstAt μ a) _
      rw [e1]
      show opt (lstAt μ b) _
      rw [e2]
      exact ⟨k1, k2, m _ k3⟩
    | _ => exact two _ _ k c1 c2
  | _ => exact two _ _ k c1 c2
theorem op_eq : Op2 .f uEq oEq := fun A U μ d y e z hA c1 c2 QV Q k q => eq_ok c1 c2 k fun b h => q _ _ μ h (.refl _) f_bl
theorem op_ne : Op2 .f uNe oNe := fun A U μ d y e z hA c1 c2 QV Q k q => eq_ok c1 c2 k fun b h => q _ _ μ h (.refl _) f_bl
theorem isNon_eq {A : Nat → Prop} {U : Pl} {μ : Sto} {d y : D} (c : Cls .b A U μ μ d y) : isNon d = isNon y := by
  cases y with
  | rol ys => obtain ⟨p, xs, rfl, _⟩ := b_rol c; rfl
  | non => rw [b_non c]
  | bl => rw [b_plain (by simp [plain]) c]
  | int => rw [b_int c]
  | str => rw [b_str c]
  | tup ys => obtain ⟨xs, rfl, _⟩ := b_tup c; rfl
  | wtup ys => obtain ⟨xs, rfl, _⟩ := b_wtup c; rfl
  | loc a =>
    rcases c with h | ⟨_, _, _, _, e, _⟩
    · exact absurd h rp_loc
    · cases e
  | exv a b ns ys =>
    rcases c with h | ⟨_, _, _, _, e, _⟩
    · obtain ⟨xs, rfl, _⟩ := rp_exv.mp h; rfl
    · cases e
theorem op_is : Op2 .f uIs oIs := fun A U μ d y e z hA c1 c2 QV Q k q => by
  cases z with
  | non => rw [b_non c2]; show Q (.bl (isNon d)) μ; rw [isNon_eq c1]; exact q _ _ μ k (.refl _) f_bl
  | _ => exact k.elim
theorem op_isnot : Op2 .f uIsNot oIsNot := fun A U μ d y e z hA c1 c2 QV Q k q => by
  cases z with
  | non => rw [b_non c2]; show Q (.bl (!isNon d)) μ; rw [isNon_eq c1]; exact q _ _ μ k (.refl _) f_bl
  | _ => exact k.elim
theorem op_ix : Op2 .s uIx oIx := fun A U μ d y e z hA c1 c2 QV Q k q => by
  cases z with
  | int i =>
    rw [b_int c2]
    have k : opt (seqV y) fun xs => opt (atI xs i) QV := k
    cases h : seqV y with
    | none => rw [h] at k; exact k.elim
    | some ys =>
      rw [h] at k
      have k : opt (atI ys i) QV := k
      obtain ⟨xs, e1, r⟩ := b_seq c1 h
      cases h2 : atI ys i with
      | none => rw [h2] at k; exact k.elim
      | some w =>
        rw [h2] at k
        obtain ⟨v, e2, r2⟩ := r.at h2
        show opt (seqOf d μ) _
        rw [e1]
        show opt (atI xs i) _
        rw [e2]
        exact q v w μ k (.refl _) r2
  | _ => exact k.elim
theorem op_bits : Op1 .f uBits oBits := fun A U μ d y hA c1 QV Q k q => by
  cases y with
  | int i => rw [b_int c1]; exact q _ _ μ k (.refl _) f_int
  | _ => exact k.elim
theorem lst_ok {A : Nat → Prop} {U : Pl} {μ : Sto} {d y : D} {ys : List D} (c : Cls .b A U μ μ d y) (e : lstV y = some ys) : ∃ p xs, d = .loc p ∧ lstAt μ p = some xs ∧ Rps A μ xs ys := by
  cases y with
  | rol zs => cases e; exact b_rol c
  | _ => cases e
theorem op_rev : Op1 .f uRev oRev := fun A U μ d y hA c1 QV Q k q => by
  cases h : lstV y with
  | none => unfold oRev at k; rw [h] at k; exact k.elim
  | some ys =>
    unfold oRev at k; rw [h] at k
    obtain ⟨p, xs, rfl, e, r⟩ := lst_ok c1 h
    show opt (lstAt μ p) _
    rw [e]
    exact fun l hl => q _ _ _ k (sub_new hl) (new_list hl r.rev)
theorem op_sortset : Op1 .f uSortSet oSortSet := fun A U μ d y hA c1 QV Q k q => by
  cases y with
  | tup ys =>
    obtain ⟨xs, rfl, r⟩ := b_tup c1
    have k : opt (intsOf ys) fun ns => ns.length < 64 ∧ ∀ (ns' : List Int), ns'.Pairwise (· < ·) → (∀ k, k ∈ ns' ↔ k ∈ ns) → QV (.rol (ns'.map D.int)) := k
    cases h : intsOf ys with
    | none => rw [h] at k; exact k.elim
    | some ns =>
      rw [h] at k
      rw [intsOf_eqV h] at r
      rw [rps_ints r]
      show opt (intsOf (ns.map D.int)) _
      have e : intsOf (ns.map D.int) = some ns := by rw [← intsOf_eqV h]; exact h
      rw [e]
      exact ⟨k.1, fun ns' p h1 h2 hp => q _ _ _ (k.2 ns' h1 h2) (sub_new hp) (new_list hp (ints_rps ns'))⟩
  | _ => exact k.elim
theorem op_lenset : Op1 .f uLenSet oLenSet := fun A U μ d y hA c1 QV Q k q => by
  cases y with
  | tup ys =>
    obtain ⟨xs, rfl, r⟩ := b_tup c1
    have k : opt (intsOf ys) fun ns => ns.length ≤ 4000 ∧ ∀ ns' : List Int, ns'.Nodup → (∀ k, k ∈ ns' ↔ k ∈ ns) → QV (.int ns'.length) := k
    cases h : intsOf ys with
    | none => rw [h] at k; exact k.elim
    | some ns =>
      rw [h] at k
      rw [intsOf_eqV h] at r
      rw [rps_ints r]
      show opt (intsOf (ns.map D.int)) _
      have e : intsOf (ns.map D.int) = some ns := by rw [← intsOf_eqV h]; exact h
      rw [e]
      exact ⟨k.1, fun ns' h1 h2 => q _ _ μ (k.2 ns' h1 h2) (.refl _) f_int⟩
  | _ => exact k.elim
/-! ### built-in functions -/
theorem arg1 {A : Nat → Prop} {U : Pl} {μ : Sto} {c : Kl} {ds ys : List D} (h : ArgL A U μ [c] ds ys) : ∃ d y, ds = [d] ∧ ys = [y] ∧ Cls c A U μ μ d y := by
  cases ds with
  | nil => cases ys <;> exact h.elim
  | cons d ds => cases ys with
    | nil => exact h.elim
    | cons y ys => cases ds with
      | nil => cases ys with
        | nil => exact ⟨d, y, rfl, rfl, h.1⟩
        | cons => exact h.2.elim
      | cons => cases ys <;> exact h.2.elim
theorem arg2 {A : Nat → Prop} {U : Pl} {μ : Sto} {c c' : Kl} {ds ys : List D} (h : ArgL A U μ [c, c'] ds ys) : ∃ d y d' y', ds = [d, d'] ∧ ys = [y, y'] ∧ Cls c A U μ μ d y ∧ Cls c' A U μ μ d' y' := by
  cases ds with
  | nil => cases ys <;> exact h.elim
  | cons d ds => cases ys with
    | nil => exact h.elim
    | cons y ys =>
      obtain ⟨d', y', rfl, rfl, h2⟩ := arg1 h.2
      exact ⟨d, y, d', y', rfl, rfl, h.1, h2⟩
theorem opa_len : OpA [.b] .f aLen bLen := fun A U μ ds ys hA ca QV Q k q => by
  obtain ⟨d, y, rfl, rfl, c⟩ := arg1 ca
  have z : ∀ n, lenV y = some n → lenOf d μ = some n := fun n h => by
    have two : ∀ y : D, Cls .b A U μ μ d y → (∀ s, y ≠ .str s) → (seqV y).map List.length = some n → lenOf d μ = some n := fun y c ns h => by
      cases hs : seqV y with
      | none => rw [hs] at h; cases h
      | some ys =>
        rw [hs] at h
        cases h
        obtain ⟨xs, e, r⟩ := b_seq c hs
        have nd : ∀ s, d ≠ .str s := fun s z => by subst z; cases e
        have : lenOf d μ = (seqOf d μ).map List.length := by
          cases d <;> first | rfl | exact absurd rfl (nd _)
        rw [this, e, ← r.len]; rfl
    cases y with
    | str s => rw [b_str c]; exact h
    | _ => exact two _ c (fun s z => by cases z) h
  have k : opt (lenV y) fun n => QV (.int n) := k
  show opt (lenOf d μ) _
  cases h : lenV y with
  | none => rw [h] at k; exact k.elim
  | some n =>
    rw [h] at k
    rw [z n h]
    exact q _ _ μ k (.refl _) f_int
theorem opa_int : OpA [.b] .f aInt bInt := fun A U μ ds ys hA ca QV Q k q => by
  obtain ⟨d, y, rfl, rfl, c⟩ := arg1 ca
  cases y with
  | int i => rw [b_int c]; exact q _ _ μ k (.refl _) f_int
  | bl b => rw [b_bool c]; exact q _ _ μ k (.refl _) f_int
  | _ => exact k.elim
theorem opa_abs : OpA [.b] .f aAbs bAbs := fun A U μ ds ys hA ca QV Q k q => by
  obtain ⟨d, y, rfl, rfl, c⟩ := arg1 ca
  cases y with
  | int i => rw [b_int c]; exact q _ _ μ k (.refl _) f_int
  | _ => exact k.elim
theorem opa_tuple : OpA [.b] .f aTuple bTuple := fun A U μ ds ys hA ca QV Q k q => by
  obtain ⟨d, y, rfl, rfl, c⟩ := arg1 ca
  cases y with
  | tup zs =>
    obtain ⟨xs, rfl, r⟩ := b_tup c
    exact q _ _ μ k (.refl _) (rp_tup.mpr ⟨_, rfl, r⟩)
  | rol zs =>
    obtain ⟨p, xs, rfl, e, r⟩ := b_rol c
    show opt (lstAt μ p) _
    rw [e]
    exact q _ _ μ k (.refl _) (rp_tup.mpr ⟨_, rfl, r⟩)
  | _ => exact k.elim
theorem opa_list : OpA [.b] .f aList bList := fun A U μ ds ys hA ca QV Q k q => by
  obtain ⟨d, y, rfl, rfl, c⟩ := arg1 ca
  have k : opt (seqV y) fun ys => QV (.rol ys) := k
  cases h : seqV y with
  | none => rw [h] at k; exact k.elim
  | some zs =>
    rw [h] at k
    obtain ⟨xs, e, r⟩ := b_seq c h
    show opt (seqOf d μ) _
    rw [e]
    exact fun p hp => q _ _ _ k (sub_new hp) (new_list hp r)
theorem b_ints {A : Nat → Prop} {U : Pl} {μ : Sto} {d y : D} {ns : List Int} (c : Cls .b A U μ μ d y) (h : intSeqV y = some ns) : intSeq d μ = some ns := by
  unfold intSeqV at h
  cases hs : seqV y with
  | none => rw [hs] at h; cases h
  | some ys =>
    rw [hs] at h
    have h : intsOf ys = some ns := h
    obtain ⟨xs, e, r⟩ := b_seq c hs
    rw [intsOf_eqV h] at r
    rw [rps_ints r] at e
    unfold intSeq
    rw [e, ← intsOf_eqV h]
    exact h
theorem opa_sum : OpA [.b] .f aSum bSum := fun A U μ ds ys hA ca QV Q k q => by
  obtain ⟨d, y, rfl, rfl, c⟩ := arg1 ca
  have k : opt (intSeqV y) fun ns => QV (.int ns.sum) := k
  cases h : intSeqV y with
  | none => rw [h] at k; exact k.elim
  | some ns =>
    rw [h] at k
    show opt (intSeq d μ) _
    rw [b_ints c h]
    exact q _ _ μ k (.refl _) f_int
theorem opa_max1 : OpA [.b] .f aMax bMax := fun A U μ ds ys hA ca QV Q k q => by
  obtain ⟨d, y, rfl, rfl, c⟩ := arg1 ca
  have k : opt (intSeqV y) fun ns => 0 < ns.length ∧ ∀ m, m ∈ ns → (∀ y, y ∈ ns → y ≤ m) → QV (.int m) := k
  cases h : intSeqV y with
  | none => rw [h] at k; exact k.elim
  | some ns =>
    rw [h] at k
    show opt (intSeq d μ) _
    rw [b_ints c h]
    exact ⟨k.1, fun m h1 h2 => q _ _ μ (k.2 m h1 h2) (.refl _) f_int⟩
theorem opa_min1 : OpA [.b] .f aMin bMin := fun A U μ ds ys hA ca QV Q k q => by
  obtain ⟨d, y, rfl, rfl, c⟩ := arg1 ca
  have k : opt (intSeqV y) fun ns => 0 < ns.length ∧ ∀ m, m ∈ ns → (∀ y, y ∈ ns → m ≤ y) → QV (.int m) := k
  cases h : intSeqV y with
  | none => rw [h] at k; exact k.elim
  | some ns =>
    rw [h] at k
    show opt (intSeq d μ) _
    rw [b_ints c h]
    exact ⟨k.1, fun m h1 h2 => q _ _ μ (k.2 m h1 h2) (.refl _) f_int⟩
theorem opa_max2 : OpA [.b, .b] .f aMax bMax := fun A U μ ds ys hA ca QV Q k q => by
  obtain ⟨d, y, d', y', rfl, rfl, c, c'⟩ := arg2 ca
  cases y with
  | int i => cases y' with
    | int j => rw [b_int c, b_int c']; exact q _ _ μ k (.refl _) f_int
    | _ => exact k.elim
  | _ => exact False.elim (by cases y' <;> exact k)
theorem opa_min2 : OpA [.b, .b] .f aMin bMin := fun A U μ ds ys hA ca QV Q k q => by
  obtain ⟨d, y, d', y', rfl, rfl, c, c'⟩ := arg2 ca
  cases y with
  | int i => cases y' with
    | int j => rw [b_int c, b_int c']; exact q _ _ μ k (.refl _) f_int
    | _ => exact k.elim
  | _ => exact False.elim (by cases y' <;> exact k)
theorem opa_gcd : OpA [.b, .b] .f aGcd bGcd := fun A U μ ds ys hA ca QV Q k q => by
  obtain ⟨d, y, d', y', rfl, rfl, c, c'⟩ := arg2 ca
  cases y with
  | int i => cases y' with
    | int j => rw [b_int c, b_int c']; exact q _ _ μ k (.refl _) f_int
    | _ => exact k.elim
  | _ => exact k.elim
theorem opa_sorted : OpA [.b] .f aSorted bSorted := fun A U μ ds ys hA ca QV Q k q => by
  obtain ⟨d, y, rfl, rfl, c⟩ := arg1 ca
  have k : opt ((lstV y).bind intsOf) fun ns => ∀ (ns' : List Int), ns'.Perm ns → ns'.Pairwise (· ≤ ·) → QV (.rol (ns'.map D.int)) := k
  cases h : lstV y with
  | none => rw [h] at k; exact k.elim
  | some ys =>
    rw [h] at k
    have k : opt (intsOf ys) _ := k
    cases h2 : intsOf ys with
    | none => rw [h2] at k; exact k.elim
    | some ns =>
      rw [h2] at k
      obtain ⟨p, xs, rfl, e, r⟩ := lst_ok c h
      rw [intsOf_eqV h2] at r
      rw [rps_ints r] at e
      show opt ((lstAt μ p).bind intsOf) _
      rw [e]
      show opt (intsOf (ns.map D.int)) _
      have e : intsOf (ns.map D.int) = some ns := by rw [← intsOf_eqV h2]; exact h2
      rw [e]
      exact fun ns' p h1 h2 hp => q _ _ _ (k ns' h1 h2) (sub_new hp) (new_list hp (ints_rps ns'))
theorem opm_count (A : Nat → Prop) (U : Pl) (μ : Sto) (d y : D) (ds ys : List D) (hA : ∀ a, A a → μ a ≠ none) (c : Cls .b A U μ μ d y) (ca : ArgL A U μ [.b] ds ys) (QV : VQ) (Q : QE) (k : nCount y ys QV) (q : ∀ d' y' μ', QV y' → Sub μ μ' → Cls .f A U μ μ' d' y' → Q d' μ') : mCount d ds μ Q := by
  obtain ⟨d', y', rfl, rfl, c'⟩ := arg1 ca
  cases y' with
  | int i =>
    rw [b_int c']
    have k : opt (intSeqV y) fun ns => QV (.int (ns.count i : Nat)) := k
    cases h : intSeqV y with
    | none => rw [h] at k; exact k.elim
    | some ns =>
      rw [h] at k
      show opt (intSeq d μ) _
      rw [b_ints c h]
      exact q _ _ μ k (.refl _) f_int
  | _ => exact k.elim
end PD
set_option linter.all false
/-! PDVStm: what the values ask is enough for the store: statements, walks, defs. -/
namespace PD
open PySem
/-- what a def gives back -/
def CR (c : Kl) (X : Nat → Prop) (U : Pl) (B μ : Sto) (d y : D) : Prop := match c with
  | .f => match y with
    | .rol ys => ∃ p ds, d = .loc p ∧ B p = none ∧ ¬ X p ∧ μ p = some (.lst ds) ∧ Rps (fun a => X a ∨ a = p) μ ds ys
    | y => Rp X μ d y
  | .u K => d = .loc U.root ∧ y = .non ∧ K U.toPo
  | _ => Rp X μ d y
structure KR (c : Kl) (X : Nat → Prop) (M : Nat → Md) (U : Pl) (B : Sto) (K : DK) (V : VK) : Prop where
  nx : ∀ ρ μ σ, St X M U B ρ μ σ → V.nx σ → K.nx ρ μ
  bk : ∀ ρ μ σ, St X M U B ρ μ σ → V.bk σ → K.bk ρ μ
  ct : ∀ ρ μ σ, St X M U B ρ μ σ → V.ct σ → K.ct ρ μ
  rt : ∀ d y μ, Sub B μ → U.ok μ → CR c X U B μ d y → V.rt y → K.rt d μ
  ex : ∀ e e' ρ μ σ, St X M U B ρ μ σ → XR (Av X M ρ σ) μ e e' → V.ex e' σ → K.ex e ρ μ
section
variable (M : Nat → Md) (rc : Kl)
def SimS (t : DS) (v : VS) : Prop := ∀ X U B K V, KR rc X M U B K V → ∀ ρ μ σ, St X M U B ρ μ σ → v V σ → t K ρ μ
/-- a target of data of class c -/
def SimG (c : Kl) (g : DG) (h : VG) : Prop := ∀ X U B ρ μ0 μ σ d y (QV : Ev → Prop) (Q : Ev → Sto → Prop) (E : QX), St X M U B ρ μ0 σ → FrU U μ0 μ → U.ok μ → Cls c (Av X M ρ σ) U μ0 μ d y → h y σ QV →
  (∀ ρ' σ', St X M U B ρ' μ σ' → (c = .s → ∀ a, Own M ρ σ a → Own M ρ' σ' a) → QV σ' → Q ρ' μ) → g d ρ μ Q E
end
section
variable {X : Nat → Prop} {M : Nat → Md} {U : Pl} {B : Sto} {ρ σ : Ev} {μ μ0 : Sto} {rc : Kl}
/-- a name is set -/
theorem own_setS {i : Nat} {x y : Option D} (hm : M i = .s) {a : Nat} (h : Own M (setE ρ i x) (setE σ i y) a) : Own M ρ σ a := by
  obtain ⟨j, ys, h1, h2, h3⟩ := h
  have n : i ≠ j := by intro z; subst z; rw [hm] at h1; cases h1
  rw [look_other n] at h2 h3
  exact ⟨j, ys, h1, h2, h3⟩
theorem own_keep {i : Nat} {x y : Option D} (hm : M i = .s) {a : Nat} (h : Own M ρ σ a) : Own M (setE ρ i x) (setE σ i y) a := by
  obtain ⟨j, ys, h1, h2, h3⟩ := h
  have n : i ≠ j := by intro z; subst z; rw [hm] at h1; cases h1
  exact ⟨j, ys, h1, by rw [look_other n]; exact h2, by rw [look_other n]; exact h3⟩
/-- a state whose slots are told anew -/
theorem St.slots (S : St X M U B ρ μ σ) {ρ' σ' : Ev} {μ' : Sto} (hl : ρ'.length = σ'.length) (fr : Sub B μ') (ok : U.ok μ') (xd : ∀ a, X a → μ' a ≠ none)
    (sl : ∀ i y, look σ' i = some y → slotR X (Av X M ρ' σ') U B μ' (M i) (look ρ' i) y)
    (dj : ∀ i j ys zs a, M i = .o → M j = .o → look σ' i = some (.rol ys) → look σ' j = some (.rol zs) → look ρ' i = some (.loc a) → look ρ' j = some (.loc a) → i = j)
    (kp : ∀ i d y, M i = .k d y → look σ' i = some y) : St X M U B ρ' μ' σ' := ⟨hl, sl, fr, ok, S.bu, S.ux, S.lx, xd, dj, kp⟩
theorem slot_step {A A' : Nat → Prop} {B : Sto} {μ μ' : Sto} {m : Md} {od : Option D} {y : D} (st : ∀ p o, ¬ A p → μ p = some o → ¬ A' p ∧ μ' p = some o) (own : ∀ p ds, m = .o → od = some (.loc p) → μ p = some (.lst ds) → ¬ X p → B p = none → μ' p = some (.lst ds)) (h : slotR X A U B μ m od y) : slotR X A' U B μ' m od y := by
  cases m with
  | s => obtain ⟨d, e, r⟩ := h; exact ⟨d, e, r.step st⟩
  | b =>
    obtain ⟨d, e, r⟩ := h
    refine ⟨d, e, ?_⟩
    rcases r with r | ⟨p, ds, ys, e1, e2, e3, e4, e5⟩
    · exact .inl (r.step st)
    · exact .inr ⟨p, ds, ys, e1, e2, e3, e4, e5.step st⟩
  | o =>
    have g : ∀ y, (∃ d, od = some d ∧ Rp A μ d y) → ∃ d, od = some d ∧ Rp A' μ' d y := fun y ⟨d, z1, z2⟩ => ⟨d, z1, z2.step st⟩
    cases y with
    | rol ys =>
      obtain ⟨p, ds, z1, z2, z3, z4, z5⟩ := h
      exact ⟨p, ds, z1, own p ds rfl z1 z2 z4 z5, z3.step st, z4, z5⟩
    | _ => exact g _ h
  | u K => exact h
  | k d0 y0 =>
    obtain ⟨z1, z2, p, ds, ys, e1, e2, e3, e4, e5⟩ := h
    exact ⟨z1, z2, p, ds, ys, e1, e2, e3, e4, e5.step st⟩
theorem kp_set {i : Nat} {x : Option D} (S : St X M U B ρ μ σ) (hm : ∀ d y, M i ≠ .k d y) : ∀ j d y, M j = .k d y → look (setE σ i x) j = some y := fun j d y h => by
  have n : i ≠ j := by intro z; subst z; exact hm _ _ h
  rw [look_other n]; exact S.kp j d y h
theorem St.setS {i : Nat} {d y : D} (S : St X M U B ρ μ σ) (hm : M i = .s) (h : Rp (Av X M ρ σ) μ d y) : St X M U B (setE ρ i (some d)) μ (setE σ i (some y)) := by
  have st : ∀ p o, ¬ Av X M ρ σ p → μ p = some o → ¬ Av X M (setE ρ i (some d)) (setE σ i (some y)) p ∧ μ p = some o := fun p o h1 h2 => ⟨fun z => h1 (z.imp id (own_setS hm)), h2⟩
  refine S.slots (by rw [set_len, set_len]; exact S.len) S.fr S.ok S.xd (fun j z hz => ?_) (fun j k ys zs a h1 h2 h3 h4 h5 h6 => ?_) (kp_set S fun d y e => by rw [hm] at e; cases e)
  · by_cases n : i = j
    · subst n
      have hi : i < σ.length := by have := look_lt hz; rwa [set_len] at this
      rw [look_self hi] at hz
      cases hz
      rw [look_self (by rw [S.len]; exact hi), hm]
      exact ⟨d, rfl, h.step st⟩
    · rw [look_other n] at hz
      rw [look_other n]
      exact slot_step st (fun _ _ _ _ e _ _ => e) (S.sl j z hz)
  · have n1 : i ≠ j := by intro z; subst z; rw [hm] at h1; cases h1
    have n2 : i ≠ k := by intro z; subst z; rw [hm] at h2; cases h2
    rw [look_other n1] at h3 h5
    rw [look_other n2] at h4 h6
    exact S.dj j k ys zs a h1 h2 h3 h4 h5 h6
/-- an own name is set to something new -/
theorem St.setO {i : Nat} {d y : D} (S0 : St X M U B ρ μ0 σ) (F : FrU U μ0 μ) (ok : U.ok μ) (hm : M i = .o) (h : Cls .f (Av X M ρ σ) U μ0 μ d y) : St X M U B (setE ρ i (some d)) μ (setE σ i (some y)) := by
  have S := S0.step F ok
  have avs : ∀ p, Av X M (setE ρ i (some d)) (setE σ i (some y)) p → Av X M ρ σ p ∨ (d = .loc p ∧ ∃ ys, y = .rol ys) := fun p z => by
    rcases z with z | ⟨j, ys, h1, h2, h3⟩
    · exact .inl (.inl z)
    · by_cases n : i = j
      · subst n
        have hi : i < σ.length := by have := look_lt h2; rwa [set_len] at this
        rw [look_self hi] at h2
        rw [look_self (by rw [S.len]; exact hi)] at h3
        exact .inr ⟨Option.some.inj h3, ys, Option.some.inj h2⟩
      · rw [look_other n] at h2 h3
        exact .inl (.inr ⟨j, ys, h1, h2, h3⟩)
  have newp : ∀ p ys, d = .loc p → y = .rol ys → μ0 p = none := fun p ys e1 e2 => by
    subst e1 e2
    obtain ⟨p', ds, e, z, _⟩ := h
    cases e; exact z
  have st : ∀ p o, ¬ Av X M ρ σ p → μ0 p = some o → ¬ Av X M (setE ρ i (some d)) (setE σ i (some y)) p ∧ μ p = some o := fun p o h1 h2 => by
    refine ⟨fun z => ?_, F p o (fun c => h1 (S.uav c)) h2⟩
    rcases avs p z with z | ⟨z1, ys, z2⟩
    · exact h1 z
    · rw [newp p ys z1 z2] at h2; cases h2
  refine S.slots (by rw [set_len, set_len]; exact S.len) S.fr S.ok S.xd (fun j z hz => ?_) (fun j k ys zs a h1 h2 h3 h4 h5 h6 => ?_) (kp_set S fun d y e => by rw [hm] at e; cases e)
  · by_cases n : i = j
    · subst n
      have hi : i < σ.length := by have := look_lt hz; rwa [set_len] at this
      rw [look_self hi] at hz
      cases hz
      rw [look_self (by rw [S.len]; exact hi), hm]
      have g : ∀ y, (∀ ys, y ≠ .rol ys) → (∀ p, Av X M (setE ρ i (some d)) (setE σ i (some y)) p → Av X M ρ σ p ∨ (d = .loc p ∧ ∃ ys, y = .rol ys)) → Rp (Av X M ρ σ) μ d y → ∃ d', some d = some d' ∧ Rp (Av X M (setE ρ i (some d)) (setE σ i (some y))) μ d' y := fun y ny av r =>
        ⟨d, rfl, r.step fun p o h1 h2 => ⟨fun z => by
          rcases av p z with z | ⟨_, ys, z⟩
          · exact h1 z
          · exact ny ys z, h2⟩⟩
      cases y with
      | rol ys =>
        obtain ⟨p, ds, rfl, e2, e3, e4⟩ := h
        refine ⟨p, ds, rfl, e3, e4.step fun q o h1 h2 => ⟨fun z => ?_, h2⟩, fun c => S0.xd p c e2, ?_⟩
        · rcases avs q z with z | ⟨z, _⟩
          · exact h1 (.inl z)
          · cases z; exact h1 (.inr rfl)
        · cases hb : B p with
          | none => rfl
          | some o => rw [S0.fr p o hb] at e2; cases e2
      | _ => exact g _ (fun ys z => by cases z) avs h
    · rw [look_other n] at hz
      rw [look_other n]
      exact slot_step st (fun p ds _ _ e hx _ => F p _ (fun c => hx (S.ux p c)) e) (S0.sl j z hz)
  · have other : ∀ j ys a, i ≠ j → M j = .o → look σ j = some (.rol ys) → look ρ j = some (.loc a) → μ0 a ≠ none := fun j ys a n h1 h2 h3 => S0.avd (.inr ⟨j, ys, h1, h2, h3⟩)
    by_cases n1 : i = j
    · by_cases n2 : i = k
      · exact n1.symm.trans n2
      · exfalso
        subst n1
        have hi : i < σ.length := by have := look_lt h3; rwa [set_len] at this
        rw [look_self hi] at h3
        rw [look_self (by rw [S.len]; exact hi)] at h5
        rw [look_other n2] at h4 h6
        exact other k zs a n2 h2 h4 h6 (newp a ys (Option.some.inj h5) (Option.some.inj h3))
    · by_cases n2 : i = k
      · exfalso
        subst n2
        have hi : i < σ.length := by have := look_lt h4; rwa [set_len] at this
        rw [look_self hi] at h4
        rw [look_self (by rw [S.len]; exact hi)] at h6
        rw [look_other n1] at h3 h5
        exact other j ys a n1 h1 h3 h5 (newp a zs (Option.some.inj h6) (Option.some.inj h4))
      · rw [look_other n1] at h3 h5
        rw [look_other n2] at h4 h6
        exact S.dj j k ys zs a h1 h2 h3 h4 h5 h6
/-- an own list is changed -/
theorem St.mut {i p : Nat} {ys ys' ds' : List D} (S : St X M U B ρ μ σ) (hm : M i = .o) (hs : look σ i = some (.rol ys)) (hr : look ρ i = some (.loc p)) (hn : ¬ X p ∧ B p = none) (r : Rps (Av X M ρ σ) μ ds' ys') : St X M U B ρ (put μ p (.lst ds')) (setE σ i (some (.rol ys'))) := by
  have hi : i < σ.length := look_lt hs
  have hA : Av X M ρ σ p := .inr ⟨i, ys, hm, hs, hr⟩
  have ow : ∀ a, Own M ρ (setE σ i (some (.rol ys'))) a → Own M ρ σ a := fun a ⟨j, zs, h1, h2, h3⟩ => by
    by_cases n : i = j
    · subst n; exact ⟨i, ys, h1, hs, h3⟩
    · rw [look_other n] at h2; exact ⟨j, zs, h1, h2, h3⟩
  have st : ∀ q o, ¬ Av X M ρ σ q → μ q = some o → ¬ Av X M ρ (setE σ i (some (.rol ys'))) q ∧ put μ p (.lst ds') q = some o := fun q o h1 h2 => by
    refine ⟨fun z => h1 (z.imp id (ow q)), ?_⟩
    have : q ≠ p := by intro z; subst z; exact h1 hA
    rw [put_ne this]; exact h2
  have sb : Sub B (put μ p (.lst ds')) := fun a o e => by
    have : a ≠ p := by intro z; subst z; rw [hn.2] at e; cases e
    rw [put_ne this]; exact S.fr a o e
  refine S.slots (by rw [set_len]; exact S.len) sb (U.keep _ _ S.ok fun a o c e => ?_) (fun a h => ?_) (fun j z hz => ?_) (fun j k ys2 zs a h1 h2 h3 h4 h5 h6 => ?_) (kp_set S fun d y e => by rw [hm] at e; cases e)
  · have : a ≠ p := by intro z; subst z; exact hn.1 (S.ux a c)
    rw [put_ne this]; exact e
  · have : a ≠ p := by intro z; subst z; exact hn.1 h
    rw [put_ne this]; exact S.xd a h
  · by_cases n : i = j
    · subst n
      rw [look_self hi] at hz
      cases hz
      rw [hm]
      exact ⟨p, ds', hr, put_same, r.step st, hn.1, hn.2⟩
    · rw [look_other n] at hz
      have z0 := S.sl j z hz
      refine slot_step st (fun q ds hmj hq e hx hb => ?_) z0
      have : q ≠ p := by
        intro w; subst w
        -- the own list of j stands at p, too
        rw [hmj] at z0
        cases z with
        | rol zs => exact n (S.dj i j ys zs q hm hmj hs hz hr hq)
        | _ =>
          obtain ⟨d, w1, w2⟩ := z0
          rw [hq] at w1
          cases w1
          simp [Rp] at w2
      rw [put_ne this]; exact e
  · have g : ∀ j ys2, look (setE σ i (some (.rol ys'))) j = some (.rol ys2) → ∃ ws, look σ j = some (.rol ws) := fun j ys2 h => by
      by_cases n : i = j
      · subst n; exact ⟨ys, hs⟩
      · rw [look_other n] at h; exact ⟨ys2, h⟩
    obtain ⟨w1, k1⟩ := g j ys2 h3
    obtain ⟨w2, k2⟩ := g k zs h4
    exact S.dj j k w1 w2 a h1 h2 k1 k2 h5 h6
/-- a name is told no more -/
theorem St.gone {i : Nat} (S : St X M U B ρ μ σ) (hm : ∀ d y, M i ≠ .k d y) : St X M U B ρ μ (setE σ i none) := by
  have sub : ∀ j y, look (setE σ i none) j = some y → look σ j = some y := fun j y h => by
    by_cases n : i = j
    · subst n
      by_cases hi : i < σ.length
      · rw [look_self hi] at h; cases h
      · rw [look_setV, if_neg (fun z => hi z.2)] at h; exact h
    · rw [look_other n] at h; exact h
  have st : ∀ q o, ¬ Av X M ρ σ q → μ q = some o → ¬ Av X M ρ (setE σ i none) q ∧ μ q = some o := fun q o h1 h2 => ⟨fun z => h1 (z.imp id fun ⟨j, ys, w1, w2, w3⟩ => ⟨j, ys, w1, sub _ _ w2, w3⟩), h2⟩
  exact S.slots (by rw [set_len]; exact S.len) S.fr S.ok S.xd (fun j z hz => slot_step st (fun _ _ _ _ e _ _ => e) (S.sl j z (sub j z hz))) (fun j k ys zs a h1 h2 h3 h4 h5 h6 => S.dj j k ys zs a h1 h2 (sub _ _ h3) (sub _ _ h4) h5 h6) (kp_set S hm)
theorem St.goneB {i : Nat} (S : St X M U B ρ μ σ) (hm : M i = .s) : St X M U B (setE ρ i none) μ (setE σ i none) := by
  have sub : ∀ j y, look (setE σ i none) j = some y → i ≠ j ∨ ¬ i < σ.length := fun j y h => by
    by_cases n : i = j
    · subst n
      by_cases hi : i < σ.length
      · rw [look_self hi] at h; cases h
      · exact .inr hi
    · exact .inl n
  have eq : ∀ j y, look (setE σ i none) j = some y → look (setE ρ i none) j = look ρ j ∧ look σ j = some y := fun j y h => by
    rcases sub j y h with n | n
    · rw [look_other n] at h ⊢; exact ⟨rfl, h⟩
    · rw [look_setV, if_neg (fun z => n z.2)] at h
      rw [look_setV, if_neg (fun z => n (by rw [← S.len]; exact z.2))]; exact ⟨rfl, h⟩
  have st : ∀ q o, ¬ Av X M ρ σ q → μ q = some o → ¬ Av X M (setE ρ i none) (setE σ i none) q ∧ μ q = some o := fun q o h1 h2 => ⟨fun z => h1 (z.imp id (own_setS hm)), h2⟩
  refine S.slots (by rw [set_len, set_len]; exact S.len) S.fr S.ok S.xd (fun j z hz => ?_) (fun j k ys zs a h1 h2 h3 h4 h5 h6 => ?_) (kp_set S fun d y e => by rw [hm] at e; cases e)
  · rw [(eq j z hz).1]
    exact slot_step st (fun _ _ _ _ e _ _ => e) (S.sl j z (eq j z hz).2)
  · rw [(eq j _ h3).1] at h5
    rw [(eq k _ h4).1] at h6
    exact S.dj j k ys zs a h1 h2 (eq _ _ h3).2 (eq _ _ h4).2 h5 h6
/-! ### targets -/
theorem sg_name {i : Nat} (hm : M i = .s) : SimG M .s (gName i) (hName i) := fun X U B ρ μ0 μ σ d y QV Q E S F o c k q =>
  q _ _ ((S.step F o).setS hm c) (fun _ a h => own_keep hm h) k
theorem sg_own {i : Nat} (hm : M i = .o) : SimG M .f (gName i) (hName i) := fun X U B ρ μ0 μ σ d y QV Q E S F o c k q =>
  q _ _ (S.setO F o hm c) (fun z => by cases z) k
theorem names_ok {ρ0 σ0 : Ev} {QV : Ev → Prop} {Q : Ev → Sto → Prop} (q : ∀ ρ' σ', St X M U B ρ' μ σ' → (∀ a, Own M ρ0 σ0 a → Own M ρ' σ' a) → QV σ' → Q ρ' μ) :
    ∀ (is : List Nat) (ds ys : List D) (ρ σ : Ev), (∀ i ∈ is, M i = .s) → (∀ a, Own M ρ0 σ0 a → Own M ρ σ a) → St X M U B ρ μ σ → Rps (Av X M ρ σ) μ ds ys → namesV is ys σ QV → gNames is ds ρ μ Q
  | [], [], [], ρ, σ, _, ow, S, _, k => q ρ σ S ow k
  | i :: is, d :: ds, y :: ys, ρ, σ, hm, ow, S, r, k => by
    simp only [Rps] at r
    have hi := hm i (List.mem_cons_self ..)
    refine names_ok q is ds ys _ _ (fun j hj => hm j (List.mem_cons_of_mem _ hj)) (fun a h => own_keep hi (ow a h)) (S.setS hi r.1) (r.2.step fun p o h1 h2 => ⟨fun z => h1 (z.imp id (own_setS hi)), h2⟩) k
  | [], [], _ :: _, _, _, _, _, _, r, _ => by simp [Rps] at r
  | [], _ :: _, [], _, _, _, _, _, r, _ => by simp [Rps] at r
  | [], _ :: _, _ :: _, _, _, _, _, _, _, k => k.elim
  | _ :: _, [], [], _, _, _, _, _, _, k => k.elim
  | _ :: _, [], _ :: _, _, _, _, _, _, r, _ => by simp [Rps] at r
  | _ :: _, _ :: _, [], _, _, _, _, _, r, _ => by simp [Rps] at r
theorem sg_tup {is : List Nat} (hm : ∀ i ∈ is, M i = .s) : SimG M .s (gTup is) (hTup is) := fun X U B ρ μ0 μ σ d y QV Q E S F o c k q => by
  have S1 := S.step F o
  cases y with
  | tup ys =>
    obtain ⟨xs, rfl, r⟩ := rp_tup.mp c
    exact names_ok (ρ0 := ρ) (σ0 := σ) (fun ρ' σ' S' ow k' => q ρ' σ' S' (fun _ => ow) k') is xs ys ρ σ hm (fun _ h => h) S1 r k
  | wtup ys =>
    obtain ⟨xs, rfl, r⟩ := rp_wtup.mp c
    exact names_ok (ρ0 := ρ) (σ0 := σ) (fun ρ' σ' S' ow k' => q ρ' σ' S' (fun _ => ow) k') is xs ys ρ σ hm (fun _ h => h) S1 r k
  | _ => exact k.elim
/-! ### statements -/
theorem ss_next : SimS M rc sNext tNext := fun X U B K V R ρ μ σ S k => R.nx ρ μ σ S k
theorem ss_break : SimS M rc sBreak tBreak := fun X U B K V R ρ μ σ S k => R.bk ρ μ σ S k
theorem ss_cont : SimS M rc sCont tCont := fun X U B K V R ρ μ σ S k => R.ct ρ μ σ S k
theorem ss_seq {t u : DS} {v w : VS} (h : SimS M rc t v) (h' : SimS M rc u w) : SimS M rc (sSeq t u) (tSeq v w) := fun X U B K V R ρ μ σ S k =>
  h X U B { K with nx := u K } { V with nx := w V } ⟨fun ρ μ σ S k => h' X U B K V R ρ μ σ S k, R.bk, R.ct, R.rt, R.ex⟩ ρ μ σ S k
theorem ss_drop {c : Kl} {t : DE} {v : VE} (h : SimE M c t v) : SimS M rc (sDrop t) (tDrop v) := fun X U B K V R ρ μ σ S k =>
  h X U B ρ μ σ S _ _ _ _ k (fun d y μ' k F o c => R.nx _ _ _ (S.step F o) k) fun e e' μ' k F o x => R.ex _ _ _ _ _ (S.step F o) x k
theorem av_x {A : Nat → Prop} {d y : D} (h : Rp (Av X M ρ σ) μ d y) : Rp X μ d y := h.step fun p o h1 h2 => ⟨fun z => h1 (.inl z), h2⟩
theorem cr_of {c : Kl} {c0 : Kl} {d y : D} (S : St X M U B ρ μ0 σ) (hc : match c0, c with | .s, .s => True | .f, .f => True | .f, .s => True | _, _ => False) (h : Cls c0 (Av X M ρ σ) U μ0 μ d y) : CR c X U B μ d y := by
  cases c with
  | b => cases c0 <;> exact hc.elim
  | s =>
    cases c0 with
    | s => exact av_x (A := X) h
    | f => exact av_x (A := X) (h.fs fun a ha => S.avd ha)
    | _ => exact hc.elim
  | u K => cases c0 <;> exact hc.elim
  | f =>
    cases c0 with
    | f =>
      have g : ∀ y, Rp (Av X M ρ σ) μ d y → Rp X μ d y := fun y r => av_x (A := X) r
      cases y with
      | rol ys =>
        obtain ⟨p, ds, e1, e2, e3, e4⟩ := h
        refine ⟨p, ds, e1, ?_, fun c => S.xd p c e2, e3, e4.step fun q o h1 h2 => ⟨fun z => h1 (z.imp .inl id), h2⟩⟩
        cases hb : B p with
        | none => rfl
        | some o => rw [S.fr p o hb] at e2; cases e2
      | _ => exact g _ h
    | _ => exact hc.elim
theorem ss_ret {c : Kl} {t : DE} {v : VE} (hc : match c, rc with | .s, .s => True | .f, .f => True | .f, .s => True | _, _ => False) (h : SimE M c t v) : SimS M rc (sRet t) (tRet v) := fun X U B K V R ρ μ σ S k =>
  h X U B ρ μ σ S _ _ _ _ k (fun d y μ' k F o c => R.rt _ _ _ (S.step F o).fr o (cr_of S hc c) k) fun e e' μ' k F o x => R.ex _ _ _ _ _ (S.step F o) x k
/-- an own list is given back -/
theorem ss_retO {i : Nat} (hm : M i = .o) (hc : match rc with | .s => True | .f => True | _ => False) : SimS M rc (sRet (dVar i)) (tRet (vVar i)) := fun X U B K V R ρ μ σ S k => by
  have k : opt (look σ i) V.rt := k
  cases hs : look σ i with
  | none => rw [hs] at k; exact k.elim
  | some y =>
    rw [hs] at k
    have z := S.sl i y hs
    rw [hm] at z
    have g : ∀ y, (∀ ys, y ≠ .rol ys) → V.rt y → (∃ d, look ρ i = some d ∧ Rp (Av X M ρ σ) μ d y) → sRet (dVar i) K ρ μ := fun y ny k ⟨d, z1, z2⟩ => by
      show opt (look ρ i) _
      rw [z1]
      refine R.rt _ _ _ S.fr S.ok ?_ k
      have r := av_x (A := X) z2
      cases rc with
      | s => exact r
      | f => cases y <;> first | exact r | exact absurd rfl (ny _)
      | _ => exact hc.elim
    cases y with
    | rol ys =>
      obtain ⟨p, ds, z1, z2, z3, z4, z5⟩ := z
      show opt (look ρ i) _
      rw [z1]
      refine R.rt _ _ _ S.fr S.ok ?_ k
      have hA : Own M ρ σ p := ⟨i, ys, hm, hs, z1⟩
      cases rc with
      | s => exact rp_rol.mpr ⟨p, ds, rfl, z4, z2, z3.step fun q o h1 h2 => ⟨fun z => h1 (.inl z), h2⟩⟩
      | f => exact ⟨p, ds, rfl, z5, z4, z2, z3.step fun q o h1 h2 => ⟨fun z => h1 (z.imp id fun e => by subst e; exact hA), h2⟩⟩
      | _ => exact hc.elim
    | _ => exact g _ (fun ys z => by cases z) k z
theorem ss_retN (hc : match rc with | .s => True | .f => True | _ => False) : SimS M rc sRetN tRetN := fun X U B K V R ρ μ σ S k => by
  refine R.rt _ _ _ S.fr S.ok ?_ k
  cases rc with
  | s => exact (rp_non (A := X) (μ := μ)).mpr rfl
  | f => exact (rp_non (A := X) (μ := μ)).mpr rfl
  | _ => exact hc.elim
theorem ss_if {tt : DT} {vt : VT} {t u : DS} {v w : VS} (hc : SimT M tt vt) (h : SimS M rc t v) (h' : SimS M rc u w) : SimS M rc (sIf tt t u) (tIf vt v w) := fun X U B K V R ρ μ σ S k => by
  refine hc X U B ρ μ σ S _ _ _ _ k (fun b μ' k F o => ?_) fun e e' μ' k F o x => R.ex _ _ _ _ _ (S.step F o) x k
  cases b with
  | true => exact h X U B K V R _ _ _ (S.step F o) k
  | false => exact h' X U B K V R _ _ _ (S.step F o) k
theorem ss_asg {c : Kl} {t : DE} {v : VE} {g : DG} {w : VG} (h : SimE M c t v) (hg : SimG M c g w) : SimS M rc (sAsg t g) (tAsg v w) := fun X U B K V R ρ μ σ S k => by
  refine h X U B ρ μ σ S _ _ _ _ k (fun d y μ' k F o c => ?_) fun e e' μ' k F o x => R.ex _ _ _ _ _ (S.step F o) x k
  exact hg X U B ρ μ μ' σ d y _ _ _ S F o c k fun ρ' σ' S' _ k' => R.nx _ _ _ S' k'
theorem ss_par {i j : Nat} {t u : DE} {v w : VE} (hi : M i = .s) (hj : M j = .s) (h : SimE M .s t v) (h' : SimE M .s u w) : SimS M rc (sPar i j t u) (tPar i j v w) := fun X U B K V R ρ μ σ S k => by
  refine h X U B ρ μ σ S _ _ _ _ k (fun d y μ1 k F o c => ?_) fun e e' μ' k F o x => R.ex _ _ _ _ _ (S.step F o) x k
  have S1 := S.step F o
  refine h' X U B ρ μ1 σ S1 _ _ _ _ k (fun d2 y2 μ2 k2 F2 o2 c2 => ?_) fun e e' μ' k F o x => R.ex _ _ _ _ _ (S1.step F o) x k
  have S2 := S1.step F2 o2
  have c1 : Rp (Av X M ρ σ) μ2 d y := Cls.step (c := .s) (μ := μ1) S1 F2 c
  have c2 : Rp (Av X M ρ σ) μ2 d2 y2 := c2
  exact R.nx _ _ _ ((S2.setS hi c1).setS hj (c2.step fun p o h1 h2 => ⟨fun z => h1 (z.imp id (own_setS hi)), h2⟩)) k2
/-! ### walks -/
end
/-- what is walked: the thing stays while G's keeper stays -/
def SimI (M : Nat → Md) (c : Kl) (wi : DI) (vi : VI) : Prop := ∀ X U B ρ μ σ, St X M U B ρ μ σ → ∀ (RV : List D → Prop) (EV : VX) (R : List D → (Sto → Prop) → Sto → Prop) (E : QX), vi σ RV EV →
  (∀ xs ys G μ', RV ys → FrU U μ μ' → U.ok μ' → Rps (Av X M ρ σ) μ' xs ys → (∀ μ'', (match c with | .b => FrU U μ' μ'' | _ => (∀ a o, ¬ Av X M ρ σ a → μ' a = some o → μ'' a = some o) ∧ Sub B μ'') → G μ'') → R xs G μ') →
  (∀ e e' μ', EV e' → FrU U μ μ' → U.ok μ' → XR (Av X M ρ σ) μ' e e' → E e μ') → wi ρ μ R E
section
variable {X : Nat → Prop} {M : Nat → Md} {U : Pl} {B : Sto} {ρ σ : Ev} {μ μ0 : Sto} {rc : Kl}
theorem si_seqS {t : DE} {v : VE} (h : SimE M .s t v) : SimI M .s (wSeq t) (kSeq v) := fun X U B ρ μ σ S RV EV R E k q e => by
  refine h X U B ρ μ σ S _ _ _ _ k (fun d y μ' k F o c => ?_) e
  cases y with
  | tup ys =>
    obtain ⟨xs, rfl, r⟩ := rp_tup.mp c
    exact q xs ys _ μ' k F o r fun _ _ => trivial
  | rol ys =>
    obtain ⟨p, xs, rfl, n, e1, r⟩ := rp_rol.mp c
    show opt (lstAt μ' p) _
    rw [lstAt_of e1]
    exact q xs ys _ μ' k F o r fun μ'' h => lstAt_of (h.1 p _ n e1)
  | _ => exact k.elim
/-- within a comprehension: whatever may be read -/
theorem si_seqB {t : DE} {v : VE} (h : SimE M .b t v) : SimI M .b (wSeq t) (kSeq v) := fun X U B ρ μ σ S RV EV R E k q e => by
  refine h X U B ρ μ σ S _ _ _ _ k (fun d y μ' k F o c => ?_) e
  cases y with
  | tup ys =>
    obtain ⟨xs, rfl, r⟩ := b_tup c
    exact q xs ys _ μ' k F o r fun _ _ => trivial
  | rol ys =>
    rcases c with c | ⟨p, ds, zs, rfl, e0, a1, n, e1, r⟩
    · obtain ⟨p, xs, rfl, n, e1, r⟩ := rp_rol.mp c
      show opt (lstAt μ' p) _
      rw [lstAt_of e1]
      exact q xs ys _ μ' k F o r fun μ'' h => lstAt_of (h p _ (fun z => n (S.uav z)) e1)
    · cases e0
      show opt (lstAt μ' p) _
      rw [lstAt_of e1]
      exact q ds ys _ μ' k F o r fun μ'' h => lstAt_of (h p _ n e1)
  | _ => exact k.elim
/-- a parameter that is only read -/
theorem si_seqP {i : Nat} (hm : M i = .b) : SimI M .s (wSeq (dVar i)) (kSeq (vVar i)) := fun X U B ρ μ σ S RV EV R E k q e => by
  have k : opt (look σ i) fun x => match x with | .tup xs => RV xs | .rol xs => RV xs | _ => False := k
  cases hs : look σ i with
  | none => rw [hs] at k; exact k.elim
  | some y =>
    rw [hs] at k
    have z := S.sl i y hs
    rw [hm] at z
    obtain ⟨d, z1, z2⟩ := z
    show opt (look ρ i) _
    rw [z1]
    rcases z2 with c | ⟨p, ds, zs, rfl, rfl, a1, e1, r⟩
    · cases y with
      | tup ys =>
        obtain ⟨xs, rfl, r⟩ := rp_tup.mp c
        exact q xs ys _ μ k (.refl _) S.ok r fun _ _ => trivial
      | rol ys =>
        obtain ⟨p, xs, rfl, n, e1, r⟩ := rp_rol.mp c
        show opt (lstAt μ p) _
        rw [lstAt_of e1]
        exact q xs ys _ μ k (.refl _) S.ok r fun μ'' h => lstAt_of (h.1 p _ n e1)
      | _ => exact k.elim
    · show opt (lstAt μ p) _
      rw [lstAt_of (S.fr _ _ e1)]
      exact q ds zs _ μ k (.refl _) S.ok r fun μ'' h => lstAt_of (h.2 _ _ e1)
theorem si_imp {wi : DI} {vi : VI} (h : SimI M .s wi vi) : SimI M .b wi vi := fun X U B ρ μ σ S RV EV R E k q e =>
  h X U B ρ μ σ S RV EV R E k (fun xs ys G μ' k F o r g => q xs ys G μ' k F o r fun μ'' h => g μ'' ⟨fun a p n e => h a p (fun c => n (S.uav c)) e, fun a p e => h a p (fun c => by rw [S.bu a c] at e; cases e) ((S.step F o).fr a p e)⟩) e
theorem rps_range {A : Nat → Prop} (lo : Int) (n : Nat) : Rps A μ (rangeL lo n) (rangeL lo n) := by
  have e : rangeL lo n = ((List.range n).map fun (k : Nat) => lo + (k : Int)).map D.int := by unfold rangeL; rw [List.map_map]; rfl
  rw [e]; exact ints_rps _
theorem si_rng1 {c : Kl} {t : DE} {v : VE} (h : SimE M .b t v) : SimI M c (wRng1 t) (kRng1 v) := fun X U B ρ μ σ S RV EV R E k q e => by
  refine h X U B ρ μ σ S _ _ _ _ k (fun d y μ' k F o c => ?_) e
  cases y with
  | int j =>
    rw [b_int c]
    exact ⟨k.1, q _ _ _ μ' k.2 F o (rps_range _ _) fun _ _ => trivial⟩
  | _ => exact k.elim
theorem si_rng2 {c : Kl} {t u : DE} {v w : VE} (h : SimE M .b t v) (h' : SimE M .b u w) : SimI M c (wRng2 t u) (kRng2 v w) := fun X U B ρ μ σ S RV EV R E k q e => by
  refine h X U B ρ μ σ S _ _ _ _ k (fun d y μ1 k F o c => ?_) e
  have S1 := S.step F o
  refine h' X U B ρ μ1 σ S1 _ _ _ _ k (fun d2 y2 μ2 k2 F2 o2 c2 => ?_) (fun x x' μ2 k2 F2 o2 c2 => e x x' μ2 k2 (F.trans F2) o2 c2)
  cases y with
  | int j => cases y2 with
    | int l =>
      rw [b_int c, b_int c2]
      exact ⟨k2.1, q _ _ _ μ2 k2.2 (F.trans F2) o2 (rps_range _ _) fun _ _ => trivial⟩
    | _ => exact k2.elim
  | _ => exact k2.elim
theorem rps_enum {A : Nat → Prop} : ∀ {xs ys : List D} (k : Nat), Rps A μ xs ys → Rps A μ (enumL xs k) (enumL ys k)
  | [], [], _, _ => by simp [enumL, Rps]
  | x :: xs, y :: ys, k, h => by
    simp only [Rps] at h
    simp only [enumL, Rps, Rp]
    exact ⟨⟨trivial, h.1, trivial⟩, rps_enum (k + 1) h.2⟩
  | [], _ :: _, _, k => by simp [Rps] at k
  | _ :: _, [], _, k => by simp [Rps] at k
theorem si_enum {c : Kl} {t : DE} {v : VE} (h : SimI M c (wSeq t) (kSeq v)) : SimI M c (wEnum t) (kEnum v) := fun X U B ρ μ σ S RV EV R E k q e =>
  h X U B ρ μ σ S _ _ _ _ k (fun xs ys G μ' k F o r g => q _ _ G μ' k F o (rps_enum 0 r) g) e
/-- all that stands and is not to be changed is held from now on -/
noncomputable def baseB (A : Nat → Prop) (μ : Sto) : Sto := fun a => open Classical in if A a then none else μ a
open Classical in
theorem St.base (S : St X M U B ρ μ σ) : St X M U (fun a => if Av X M ρ σ a then B a else μ a) ρ μ σ := by
  refine ⟨S.len, fun i y h => ?_, fun a o e => ?_, S.ok, fun a c => ?_, S.ux, S.lx, S.xd, S.dj, S.kp⟩
  · have z := S.sl i y h
    cases hm : M i with
    | s => rw [hm] at z; exact z
    | b =>
      rw [hm] at z
      obtain ⟨d, z1, z2⟩ := z
      refine ⟨d, z1, ?_⟩
      rcases z2 with z2 | ⟨p, ds, ys, e1, e2, e3, e4, e5⟩
      · exact .inl z2
      · exact .inr ⟨p, ds, ys, e1, e2, e3, by simp only [if_pos (show Av X M ρ σ p from .inl (S.lx p e3))]; exact e4, e5⟩
    | o =>
      rw [hm] at z
      cases y with
      | rol ys =>
        obtain ⟨p, ds, z1, z2, z3, z4, z5⟩ := z
        exact ⟨p, ds, z1, z2, z3, z4, by simp only [if_pos (show Av X M ρ σ p from .inr ⟨i, ys, hm, h, z1⟩)]; exact z5⟩
      | _ => exact z
    | u K => rw [hm] at z; exact z
    | k d0 y0 =>
      rw [hm] at z
      obtain ⟨z1, z2, p, ds, ys, e1, e2, e3, e4, e5⟩ := z
      exact ⟨z1, z2, p, ds, ys, e1, e2, e3, by simp only [if_pos (show Av X M ρ σ p from .inl e3)]; exact e4, e5⟩
  · by_cases c : Av X M ρ σ a
    · simp only [if_pos c] at e; exact S.fr a o e
    · simp only [if_neg c] at e; exact e
  · show (if Av X M ρ σ a then B a else μ a) = none
    rw [if_pos (S.uav c)]; exact S.bu a c
theorem St.weak {B' : Sto} (h : ∀ a o, B a = some o → B' a = some o) (hb : ∀ p, X p → B' p = B p) (S : St X M U B' ρ μ σ) : St X M U B ρ μ σ := by
  have none : ∀ a, B' a = none → B a = none := fun a e => by
    cases z : B a with
    | none => rfl
    | some o => rw [h a o z] at e; cases e
  refine ⟨S.len, fun i y hy => ?_, fun a o e => S.fr a o (h a o e), S.ok, fun a c => none a (S.bu a c), S.ux, S.lx, S.xd, S.dj, S.kp⟩
  have z := S.sl i y hy
  cases hm : M i with
  | s => rw [hm] at z; exact z
  | b =>
    rw [hm] at z
    obtain ⟨d, z1, z2⟩ := z
    refine ⟨d, z1, ?_⟩
    rcases z2 with z2 | ⟨p, ds, ys, e1, e2, e3, e4, e5⟩
    · exact .inl z2
    · exact .inr ⟨p, ds, ys, e1, e2, e3, by rw [← hb p (S.lx p e3)]; exact e4, e5⟩
  | o =>
    rw [hm] at z
    cases y with
    | rol ys =>
      obtain ⟨p, ds, z1, z2, z3, z4, z5⟩ := z
      exact ⟨p, ds, z1, z2, z3, z4, none p z5⟩
    | _ => exact z
  | u K => rw [hm] at z; exact z
  | k d0 y0 =>
    rw [hm] at z
    obtain ⟨z1, z2, p, ds, ys, e1, e2, e3, e4, e5⟩ := z
    exact ⟨z1, z2, p, ds, ys, e1, e2, e3, by rw [← hb p e3]; exact e4, e5⟩
end
end PD
set_option linter.all false
/-! PDVStm2: loops, exceptions, comprehensions, changes of own lists, defs. -/
namespace PD
open PySem
section
variable {X : Nat → Prop} {M : Nat → Md} {U : Pl} {B : Sto} {ρ σ : Ev} {μ μ0 : Sto} {rc : Kl}
theorem St.ownB (S : St X M U B ρ μ σ) {a : Nat} (h : Own M ρ σ a) : B a = none ∧ ¬ X a := by
  obtain ⟨i, ys, h1, h2, h3⟩ := h
  have z := S.sl i _ h2
  rw [h1] at z
  obtain ⟨p, ds, e, _, _, e4, e5⟩ := z
  rw [h3] at e
  cases e
  exact ⟨e5, e4⟩
theorem cr_back {c : Kl} {B' : Sto} {X' : Nat → Prop} {d y : D} (hB : ∀ a, B' a = none → B a = none) (hX : ∀ a, X a → X' a) (h : CR c X' U B' μ d y) : CR c X U B μ d y := by
  have g : ∀ y, Rp X' μ d y → Rp X μ d y := fun y r => r.step fun q o h1 h2 => ⟨fun z => h1 (hX q z), h2⟩
  cases c with
  | f =>
    cases y with
    | rol ys =>
      obtain ⟨p, ds, e1, e2, e3, e4, e5⟩ := h
      exact ⟨p, ds, e1, hB p e2, fun z => e3 (hX p z), e4, e5.step fun q o h1 h2 => ⟨fun z => h1 (z.imp (hX q) id), h2⟩⟩
    | _ => exact g _ h
  | u K => exact h
  | s => exact g _ h
  | b => exact g _ h
theorem forKR {B' : Sto} {K : DK} {V : VK} (R : KR rc X M U B K V) (h : ∀ a o, B a = some o → B' a = some o) (hb : ∀ p, X p → B' p = B p) : KR rc X M U B' K V := by
  have nn : ∀ a, B' a = none → B a = none := fun a e => by
    cases z : B a with
    | none => rfl
    | some o => rw [h a o z] at e; cases e
  exact ⟨fun ρ μ σ S k => R.nx _ _ _ (S.weak h hb) k, fun ρ μ σ S k => R.bk _ _ _ (S.weak h hb) k, fun ρ μ σ S k => R.ct _ _ _ (S.weak h hb) k,
    fun d y μ s o c k => R.rt d y μ (fun a o e => s a o (h a o e)) o (cr_back nn (fun _ z => z) c) k, fun e e' ρ μ σ S x k => R.ex e e' _ _ _ (S.weak h hb) x k⟩
/-- the turns of a walk -/
theorem for_turns {g : DG} {w : VG} {tb : DS} {vb : VS} {A0 : Nat → Prop} {μ1 : Sto} {G : Sto → Prop} {K : DK} {V : VK} (hg : SimG M .s g w) (hb : SimS M rc tb vb) (R : KR rc X M U B K V)
    (hB : ∀ a o, ¬ A0 a → μ1 a = some o → B a = some o) (hX : ∀ a, X a → A0 a) (hU : ∀ a, U.cell a → A0 a) (hG : ∀ μ, Sub B μ → G μ) :
    ∀ (xs ys : List D) (ρ : Ev) (μ : Sto) (σ : Ev), Rps A0 μ1 xs ys → St X M U B ρ μ σ → forV w vb V ys σ → forW G g tb K xs ρ μ
  | [], [], ρ, μ, σ, _, S, k => ⟨hG μ S.fr, R.nx _ _ _ S k⟩
  | x :: xs, y :: ys, ρ, μ, σ, r, S, k => by
    simp only [Rps] at r
    refine ⟨hG μ S.fr, ?_⟩
    have rx : Rp (Av X M ρ σ) μ x y := r.1.step fun p o h1 h2 => by
      have hb := hB p o h1 h2
      refine ⟨fun z => ?_, S.fr p o hb⟩
      rcases z with z | z
      · exact h1 (hX p z)
      · rw [(S.ownB z).1] at hb; cases hb
    refine hg X U B ρ μ μ σ x y _ _ _ S (.refl _) S.ok rx k fun ρ' σ' S' _ k' => ?_
    have ih := fun ρ μ σ S k => for_turns hg hb R hB hX hU hG xs ys ρ μ σ r.2 S k
    exact hb X U B { K with nx := forW G g tb K xs, ct := forW G g tb K xs, bk := K.nx } { V with nx := forV w vb V ys, ct := forV w vb V ys, bk := V.nx } ⟨ih, R.nx, ih, R.rt, R.ex⟩ _ _ _ S' k'
  | [], _ :: _, _, _, _, r, _, _ => by simp [Rps] at r
  | _ :: _, [], _, _, _, r, _, _ => by simp [Rps] at r
open Classical in
theorem ss_for {wi : DI} {vi : VI} {g : DG} {w : VG} {tb : DS} {vb : VS} (hi : SimI M .s wi vi) (hg : SimG M .s g w) (hb : SimS M rc tb vb) : SimS M rc (sFor wi g tb) (tFor vi w vb) := fun X U B K V R ρ μ σ S k => by
  refine hi X U B ρ μ σ S _ _ _ _ k (fun xs ys G μ1 k F o r hG => ?_) fun e e' μ' k F o x => R.ex _ _ _ _ _ (S.step F o) x k
  have S1 := S.step F o
  have h1 : ∀ a o, B a = some o → (if Av X M ρ σ a then B a else μ1 a) = some o := fun a o e => by
    by_cases c : Av X M ρ σ a
    · rw [if_pos c]; exact e
    · rw [if_neg c]; exact S1.fr a o e
  refine for_turns (B := fun a => if Av X M ρ σ a then B a else μ1 a) (A0 := Av X M ρ σ) (μ1 := μ1) hg hb (forKR R h1 fun p z => if_pos (.inl z)) (fun a o n e => ?_) (fun a z => .inl z) (fun a z => S.uav z) (fun μ sb => ?_) xs ys ρ μ1 σ r S1.base k
  · show (if Av X M ρ σ a then B a else μ1 a) = some o
    rw [if_neg n]; exact e
  · exact hG μ ⟨fun a o n e => sb a o (by show (if Av X M ρ σ a then B a else μ1 a) = some o; rw [if_neg n]; exact e), fun a o e => sb a o (h1 a o e)⟩
/-! a walk over an own list -/
def updM (M : Nat → Md) (i : Nat) (m : Md) : Nat → Md := fun j => if j = i then m else M j
theorem updM_self {i : Nat} {m : Md} : updM M i m i = m := if_pos rfl
theorem updM_other {i j : Nat} {m : Md} (h : j ≠ i) : updM M i m j = M j := if_neg h
theorem av_lend {i p : Nat} {d y : D} {ys : List D} (hm : M i = .o) (hs : look σ i = some (.rol ys)) (hr : look ρ i = some (.loc p)) (a : Nat) : Av (fun a => X a ∨ a = p) (updM M i (.k d y)) ρ σ a ↔ Av X M ρ σ a := by
  constructor
  · rintro ((z | z) | ⟨j, zs, h1, h2, h3⟩)
    · exact .inl z
    · subst z; exact .inr ⟨i, ys, hm, hs, hr⟩
    · by_cases n : j = i
      · subst n; rw [updM_self] at h1; cases h1
      · rw [updM_other n] at h1; exact .inr ⟨j, zs, h1, h2, h3⟩
  · rintro (z | ⟨j, zs, h1, h2, h3⟩)
    · exact .inl (.inl z)
    · by_cases n : j = i
      · subst n; rw [hr] at h3; cases h3; exact .inl (.inr rfl)
      · exact .inr ⟨j, zs, by rw [updM_other n]; exact h1, h2, h3⟩
open Classical in
theorem St.lend {i p : Nat} {ys ds : List D} (S : St X M U B ρ μ σ) (hm : M i = .o) (hs : look σ i = some (.rol ys)) (hr : look ρ i = some (.loc p)) (hp : μ p = some (.lst ds)) :
    St (fun a => X a ∨ a = p) (updM M i (.k (.loc p) (.rol ys))) U (fun a => if a = p then some (.lst ds) else if Av X M ρ σ a then B a else μ a) ρ μ σ := by
  have av := fun a => av_lend (X := X) (d := .loc p) (y := .rol ys) hm hs hr a
  have nX : ¬ X p := (S.ownB ⟨i, ys, hm, hs, hr⟩).2
  have st : ∀ q o, ¬ Av X M ρ σ q → μ q = some o → ¬ Av (fun a => X a ∨ a = p) (updM M i (.k (.loc p) (.rol ys))) ρ σ q ∧ μ q = some o := fun q o h1 h2 => ⟨fun z => h1 ((av q).mp z), h2⟩
  have elems : Rps (Av X M ρ σ) μ ds ys := by
    have z := S.sl i _ hs
    rw [hm] at z
    obtain ⟨q, ds', e1, e2, e3, _⟩ := z
    rw [hr] at e1; cases e1
    rw [hp] at e2; cases e2
    exact e3
  refine ⟨S.len, fun j y hj => ?_, fun a o e => ?_, S.ok, fun a c => ?_, fun a c => .inl (S.ux a c), fun a c => .inl (S.lx a c), fun a h => ?_, fun j k ys2 zs a h1 h2 h3 h4 h5 h6 => ?_, fun j d y h => ?_⟩
  · by_cases n : j = i
    · subst n
      rw [hs] at hj; cases hj
      rw [updM_self]
      exact ⟨rfl, hr, p, ds, ys, rfl, rfl, .inr rfl, if_pos rfl, elems.step st⟩
    · rw [updM_other n]
      have z := S.sl j y hj
      cases hk : M j with
      | s => rw [hk] at z; obtain ⟨d, e, r⟩ := z; exact ⟨d, e, r.step st⟩
      | b =>
        rw [hk] at z
        obtain ⟨d, e, r⟩ := z
        refine ⟨d, e, ?_⟩
        rcases r with r | ⟨q, ds', zs, e1, e2, e3, e4, e5⟩
        · exact .inl (r.step st)
        · have nq : q ≠ p := by intro z; subst z; exact nX (S.lx _ e3)
          exact .inr ⟨q, ds', zs, e1, e2, e3, by simp only [if_neg nq, if_pos (show Av X M ρ σ q from .inl (S.lx _ e3))]; exact e4, e5.step st⟩
      | o =>
        rw [hk] at z
        have g : ∀ y, (∃ d, look ρ j = some d ∧ Rp (Av X M ρ σ) μ d y) → ∃ d, look ρ j = some d ∧ Rp (Av (fun a => X a ∨ a = p) (updM M i (.k (.loc p) (.rol ys))) ρ σ) μ d y := fun y ⟨d, z1, z2⟩ => ⟨d, z1, z2.step st⟩
        cases y with
        | rol zs =>
          obtain ⟨q, ds', z1, z2, z3, z4, z5⟩ := z
          have nq : q ≠ p := by intro w; subst w; exact n (S.dj j i zs ys q hk hm hj hs z1 hr)
          exact ⟨q, ds', z1, z2, z3.step st, fun w => w.elim z4 nq, by simp only [if_neg nq, if_pos (show Av X M ρ σ q from .inr ⟨j, zs, hk, hj, z1⟩)]; exact z5⟩
        | _ => exact g _ z
      | u K => rw [hk] at z; exact z
      | k d0 y0 =>
        rw [hk] at z
        obtain ⟨z1, z2, q, ds', zs, e1, e2, e3, e4, e5⟩ := z
        have nq : q ≠ p := by intro z; subst z; exact nX e3
        exact ⟨z1, z2, q, ds', zs, e1, e2, .inl e3, by simp only [if_neg nq, if_pos (show Av X M ρ σ q from .inl e3)]; exact e4, e5.step st⟩
  · by_cases n : a = p
    · subst n; simp only [if_pos] at e; cases e; exact hp
    · by_cases c : Av X M ρ σ a
      · simp only [if_neg n, if_pos c] at e; exact S.fr a o e
      · simp only [if_neg n, if_neg c] at e; exact e
  · have n : a ≠ p := by intro z; subst z; exact nX (S.ux a c)
    simp only [if_neg n, if_pos (S.uav c)]; exact S.bu a c
  · rcases h with h | h
    · exact S.xd a h
    · subst h; rw [hp]; intro z; cases z
  · have n1 : j ≠ i := by intro z; subst z; rw [updM_self] at h1; cases h1
    have n2 : k ≠ i := by intro z; subst z; rw [updM_self] at h2; cases h2
    rw [updM_other n1] at h1
    rw [updM_other n2] at h2
    exact S.dj j k ys2 zs a h1 h2 h3 h4 h5 h6
  · by_cases n : j = i
    · subst n; rw [updM_self] at h; cases h; exact hs
    · rw [updM_other n] at h; exact S.kp j d y h
open Classical in
theorem St.unlend {i p : Nat} {ys ds : List D} {A0 : Nat → Prop} {μ1 : Sto} (hm : M i = .o) (hX : ¬ X p) (hBp : B p = none) (hsub : ∀ a o, B a = some o → A0 a ∨ μ1 a = some o) (hXA : ∀ a, X a → A0 a) (hL : ∀ a, U.lent a → X a) (hC : ∀ a, U.cell a → X a) (hK : ∀ j d y, M j = .k d y → ∃ q, d = .loc q ∧ X q)
    (S : St (fun a => X a ∨ a = p) (updM M i (.k (.loc p) (.rol ys))) U (fun a => if a = p then some (.lst ds) else if A0 a then B a else μ1 a) ρ μ σ) : St X M U B ρ μ σ := by
  have hs : look σ i = some (.rol ys) := S.kp i _ _ updM_self
  have z0 := S.sl i _ hs
  rw [updM_self] at z0
  obtain ⟨_, hr, q0, ds0, ys0, e1, e2, _, e4, el⟩ := z0
  cases e1; cases e2
  have e5 : ds0 = ds := by simp only [if_pos] at e4; cases e4; rfl
  subst e5
  have av := fun a => av_lend (X := X) (d := .loc p) (y := .rol ys) hm hs hr a
  have st : ∀ q o, ¬ Av (fun a => X a ∨ a = p) (updM M i (.k (.loc p) (.rol ys))) ρ σ q → μ q = some o → ¬ Av X M ρ σ q ∧ μ q = some o := fun q o h1 h2 => ⟨fun z => h1 ((av q).mpr z), h2⟩
  have subB : ∀ a o, B a = some o → (if a = p then some (O.lst ds0) else if A0 a then B a else μ1 a) = some o := fun a o e => by
    have n : a ≠ p := by intro z; subst z; rw [hBp] at e; cases e
    rw [if_neg n]
    by_cases c : A0 a
    · rw [if_pos c]; exact e
    · rw [if_neg c]
      rcases hsub a o e with z | z
      · exact absurd z c
      · exact z
  have none : ∀ a, (if a = p then some (O.lst ds0) else if A0 a then B a else μ1 a) = none → B a = none := fun a e => by
    cases z : B a with
    | none => rfl
    | some o => rw [subB a o z] at e; cases e
  have backX : ∀ q, q ≠ p → X q → (if q = p then some (O.lst ds0) else if A0 q then B q else μ1 q) = B q := fun q n h => by rw [if_neg n, if_pos (hXA q h)]
  refine ⟨S.len, fun j y hj => ?_, fun a o e => S.fr a o (subB a o e), S.ok, fun a c => none a (S.bu a c), hC, hL, fun a h => S.xd a (.inl h), fun j k ys2 zs a h1 h2 h3 h4 h5 h6 => ?_, fun j d y h => ?_⟩
  · by_cases n : j = i
    · subst n
      rw [hs] at hj; cases hj
      rw [hm]
      exact ⟨p, ds0, hr, S.fr p _ e4, el.step st, hX, hBp⟩
    · have z := S.sl j y hj
      rw [updM_other n] at z
      cases hk : M j with
      | s => rw [hk] at z; obtain ⟨d, e, r⟩ := z; exact ⟨d, e, r.step st⟩
      | b =>
        rw [hk] at z
        obtain ⟨d, e, r⟩ := z
        refine ⟨d, e, ?_⟩
        rcases r with r | ⟨q, ds', zs, e1, e2, e3, e4', e5⟩
        · exact .inl (r.step st)
        · have nq : q ≠ p := by intro z; subst z; exact hX (hL _ e3)
          have e4' : (if q = p then some (O.lst ds0) else if A0 q then B q else μ1 q) = some (O.lst ds') := e4'
          rw [backX q nq (hL q e3)] at e4'
          exact .inr ⟨q, ds', zs, e1, e2, e3, e4', e5.step st⟩
      | o =>
        rw [hk] at z
        have g : ∀ y, (∃ d, look ρ j = some d ∧ Rp (Av (fun a => X a ∨ a = p) (updM M i (.k (.loc p) (.rol ys))) ρ σ) μ d y) → ∃ d, look ρ j = some d ∧ Rp (Av X M ρ σ) μ d y := fun y ⟨d, z1, z2⟩ => ⟨d, z1, z2.step st⟩
        cases y with
        | rol zs =>
          obtain ⟨q, ds', z1, z2, z3, z4, z5⟩ := z
          exact ⟨q, ds', z1, z2, z3.step st, fun w => z4 (.inl w), none q z5⟩
        | _ => exact g _ z
      | u K => rw [hk] at z; exact z
      | k d0 y0 =>
        rw [hk] at z
        obtain ⟨z1, z2, q, ds', zs, e1, e2, e3, e4', e5⟩ := z
        obtain ⟨q', w1, w2⟩ := hK j d0 y0 hk
        rw [e1] at w1; cases w1
        have nq : q ≠ p := by intro z; subst z; exact hX w2
        have e4' : (if q = p then some (O.lst ds0) else if A0 q then B q else μ1 q) = some (O.lst ds') := e4'
        rw [backX q nq w2] at e4'
        exact ⟨z1, z2, q, ds', zs, e1, e2, w2, e4', e5.step st⟩
  · have own : ∀ j ys2 a, j ≠ i → M j = .o → look σ j = some (.rol ys2) → look ρ j = some (.loc a) → a ≠ p := fun j ys2 a n h1 h2 h3 w => by
      subst w
      have := (S.ownB (a := a) ⟨j, ys2, by rw [updM_other n]; exact h1, h2, h3⟩).2
      exact this (.inr rfl)
    by_cases n1 : j = i
    · by_cases n2 : k = i
      · exact n1.trans n2.symm
      · subst n1
        rw [hr] at h5; cases h5
        exact absurd rfl (own k zs _ n2 h2 h4 h6)
    · by_cases n2 : k = i
      · subst n2
        rw [hr] at h6; cases h6
        exact absurd rfl (own j ys2 _ n1 h1 h3 h5)
      · exact S.dj j k ys2 zs a (by rw [updM_other n1]; exact h1) (by rw [updM_other n2]; exact h2) h3 h4 h5 h6
  · by_cases n : j = i
    · subst n; rw [hm] at h; cases h
    · exact S.kp j d y (by rw [updM_other n]; exact h)
end
end PD
set_option linter.all false
/-! PDVStm3: walks over own lists, while, exceptions, comprehensions, changes of own lists, defs. -/
namespace PD
open PySem
section
variable {X : Nat → Prop} {M : Nat → Md} {U : Pl} {B : Sto} {ρ σ : Ev} {μ μ0 : Sto} {rc : Kl}
def eL (en : Bool) (xs : List D) : List D := if en then enumL xs 0 else xs
open Classical in
theorem ss_forO {i : Nat} (en : Bool) {g : DG} {w : VG} {tb : DS} {vb : VS} (hm : M i = .o) (hg : ∀ d y, SimG (updM M i (.k d y)) .s g w) (hb : ∀ d y, SimS (updM M i (.k d y)) rc tb vb) :
    SimS M rc (sFor (if en then wEnum (dVar i) else wSeq (dVar i)) g tb) (tForO i en w vb) := fun X U B K V R ρ μ σ S k => by
  have k : opt (look σ i) fun x => match x with | .rol xs => forV w vb V (if en then enumL xs 0 else xs) σ | _ => False := k
  cases hs : look σ i with
  | none => rw [hs] at k; exact k.elim
  | some y =>
    rw [hs] at k
    cases y with
    | rol ys =>
      have z := S.sl i _ hs
      rw [hm] at z
      obtain ⟨p, ds, hr, hp, el, hX, hBp⟩ := z
      have SL := S.lend hm hs hr hp
      have k : forV w vb V (eL en ys) σ := k
      have hsub : ∀ a o, B a = some o → Av X M ρ σ a ∨ μ a = some o := fun a o e => .inr (S.fr a o e)
      have hK : ∀ j d y, M j = .k d y → ∃ q, d = .loc q ∧ X q := fun j d y h => by
        have z := S.sl j y (S.kp j d y h)
        rw [h] at z
        obtain ⟨_, _, q, _, _, e1, _, e3, _⟩ := z
        exact ⟨q, e1, e3⟩
      have back : ∀ ρ' μ' σ', St (fun a => X a ∨ a = p) (updM M i (.k (.loc p) (.rol ys))) U (fun a => if a = p then some (.lst ds) else if Av X M ρ σ a then B a else μ a) ρ' μ' σ' → St X M U B ρ' μ' σ' := fun ρ' μ' σ' S' =>
        St.unlend hm hX hBp hsub (fun a z => .inl z) S.lx S.ux hK S'
      have subB : ∀ a o, B a = some o → (if a = p then some (O.lst ds) else if Av X M ρ σ a then B a else μ a) = some o := fun a o e => by
        have n : a ≠ p := by intro z; subst z; rw [hBp] at e; cases e
        rw [if_neg n]
        by_cases c : Av X M ρ σ a
        · rw [if_pos c]; exact e
        · rw [if_neg c]; exact S.fr a o e
      have nn : ∀ a, (if a = p then some (O.lst ds) else if Av X M ρ σ a then B a else μ a) = none → B a = none := fun a e => by
        cases z : B a with
        | none => rfl
        | some o => rw [subB a o z] at e; cases e
      have R' : KR rc (fun a => X a ∨ a = p) (updM M i (.k (.loc p) (.rol ys))) U (fun a => if a = p then some (.lst ds) else if Av X M ρ σ a then B a else μ a) K V :=
        ⟨fun ρ μ σ S k => R.nx _ _ _ (back _ _ _ S) k, fun ρ μ σ S k => R.bk _ _ _ (back _ _ _ S) k, fun ρ μ σ S k => R.ct _ _ _ (back _ _ _ S) k,
          fun d y μ s o c k => R.rt d y μ (fun a o e => s a o (subB a o e)) o (cr_back nn (fun _ z => .inl z) c) k,
          fun e e' ρ' μ' σ' S' x k => by
            refine R.ex e e' _ _ _ (back _ _ _ S') (x.step fun q o h1 h2 => ⟨fun z => h1 ?_, h2⟩) k
            have hs' : look σ' i = some (.rol ys) := S'.kp i _ _ updM_self
            have z0 := S'.sl i _ hs'
            rw [updM_self] at z0
            obtain ⟨_, hr', _⟩ := z0
            exact (av_lend hm hs' hr' q).mpr z⟩
      have turns := fun xs' ys' r k => for_turns (A0 := Av X M ρ σ) (μ1 := μ) (G := fun μ' => lstAt μ' p = some ds) (hg (.loc p) (.rol ys)) (hb (.loc p) (.rol ys)) R'
        (fun a o n e => by
          have np : a ≠ p := by intro z; subst z; exact n (.inr ⟨i, ys, hm, hs, hr⟩)
          show (if a = p then some (O.lst ds) else if Av X M ρ σ a then B a else μ a) = some o
          rw [if_neg np, if_neg n]; exact e) (fun a z => z.elim .inl fun e => by subst e; exact .inr ⟨i, ys, hm, hs, hr⟩) (fun a c => S.uav c)
        (fun μ' sb => lstAt_of (sb p _ (if_pos rfl))) xs' ys' ρ μ σ r SL k
      cases en with
      | false =>
        show opt (look ρ i) _
        rw [hr]
        show opt (lstAt μ p) _
        rw [lstAt_of hp]
        exact turns ds ys el k
      | true =>
        show opt (look ρ i) _
        rw [hr]
        show opt (lstAt μ p) _
        rw [lstAt_of hp]
        exact turns _ _ (rps_enum 0 el) k
    | _ => exact k.elim
theorem while_turns {tt : DT} {vt : VT} {tb : DS} {vb : VS} {K : DK} {V : VK} (hc : SimT M tt vt) (hb : SimS M rc tb vb) (R : KR rc X M U B K V) : ∀ (n : Nat) (ρ : Ev) (μ : Sto) (σ : Ev), St X M U B ρ μ σ → whileV vt vb V n σ → whileW tt tb K n ρ μ
  | 0, _, _, _, _, k => k.elim
  | n + 1, ρ, μ, σ, S, k => by
    refine hc X U B ρ μ σ S _ _ _ _ k (fun b μ' k F o => ?_) fun e e' μ' k F o x => R.ex _ _ _ _ _ (S.step F o) x k
    have ih := fun ρ μ σ S k => while_turns hc hb R n ρ μ σ S k
    cases b with
    | true => exact hb X U B { K with nx := whileW tt tb K n, ct := whileW tt tb K n, bk := K.nx } { V with nx := whileV vt vb V n, ct := whileV vt vb V n, bk := V.nx } ⟨ih, R.nx, ih, R.rt, R.ex⟩ _ _ _ (S.step F o) k
    | false => exact R.nx _ _ _ (S.step F o) k
theorem ss_while {tt : DT} {vt : VT} {tb : DS} {vb : VS} (hc : SimT M tt vt) (hb : SimS M rc tb vb) : SimS M rc (sWhile tt tb) (tWhile vt vb) := fun X U B K V R ρ μ σ S ⟨n, k⟩ => ⟨n, while_turns hc hb R n ρ μ σ S k⟩
/-! ### exceptions -/
theorem zip_fstV : ∀ {fs : List Str} {ds : List D}, ds.length = fs.length → (fs.zip ds).map (·.1) = fs
  | [], [], _ => rfl
  | f :: fs, d :: ds, h => by simp only [List.zip_cons_cons, List.map_cons, zip_fstV (Nat.succ.inj h)]
theorem zip_sndV : ∀ {fs : List Str} {ds : List D}, ds.length = fs.length → (fs.zip ds).map (·.2) = ds
  | [], [], _ => rfl
  | f :: fs, d :: ds, h => by simp only [List.zip_cons_cons, List.map_cons, zip_sndV (Nat.succ.inj h)]
theorem ss_raise {cs : List Kl} {cn : Str} {fs : List Str} {t : DA} {v : VA} (hc : (cs.all fun c => match c with | .s => true | _ => false) = true) (h : SimA M cs t v) : SimS M rc (sRaise cn fs t) (tRaise cn fs v) := fun X U B K V R ρ μ σ S k => by
  refine h X U B ρ μ σ S _ _ _ _ k (fun ds ys μ' k F o c => ?_) fun e e' μ' k F o x => R.ex _ _ _ _ _ (S.step F o) x k
  have r := argL_rps hc c
  have hl : ds.length = fs.length := by rw [r.len]; exact k.1
  refine ⟨hl, R.ex _ ⟨cn, (fs.zip ys).reverse⟩ _ _ _ (S.step F o) ⟨rfl, ?_, ?_⟩ k.2⟩
  · show (fs.zip ds).reverse.map (·.1) = (fs.zip ys).reverse.map (·.1)
    rw [List.map_reverse, List.map_reverse, zip_fstV hl, zip_fstV k.1]
  · show Rps _ _ ((fs.zip ds).reverse.map (·.2)) ((fs.zip ys).reverse.map (·.2))
    rw [List.map_reverse, List.map_reverse, zip_sndV hl, zip_sndV k.1]; exact r.rev
inductive ClsR (M : Nat → Md) (rc : Kl) : List DCl → List VCl → Prop
  | nil : ClsR M rc [] []
  | cons {n : Str} {i : Option Nat} {sd : Nat → Nat → DS} {sv : Nat → Nat → VS} {r : List DCl} {r' : List VCl} : (match i with | none => True | some i => M i = .s) → (∀ a d, SimS M rc (sd a d) (sv a d)) → ClsR M rc r r' → ClsR M rc ((n, i, sd) :: r) ((n, i, sv) :: r')
theorem gone_ok {i : Option Nat} (hi : match i with | none => True | some i => M i = .s) (S : St X M U B ρ μ σ) : St X M U B (goneE i ρ) μ (goneE i σ) := by
  cases i with
  | none => exact S
  | some i => exact S.goneB hi
theorem catch_ok {isa : Str → Str → Option Bool} {K : DK} {V : VK} (R : KR rc X M U B K V) {x x' : Ex} : ∀ {hs : List DCl} {hs' : List VCl} {ρ : Ev} {μ : Sto} {σ : Ev}, ClsR M rc hs hs' → St X M U B ρ μ σ → XR (Av X M ρ σ) μ x x' → catchV isa V x' hs' σ → catchW isa K x hs ρ μ := by
  intro hs hs' ρ μ σ h
  induction h with
  | nil => exact fun S r k => R.ex _ _ _ _ _ S r k
  | @cons n i sd sv r r' hi hsu _ ih =>
    intro S xr k
    unfold catchV at k
    unfold catchW
    rw [xr.1]
    cases e : isa x'.cls n with
    | none => rw [e] at k; exact k.elim
    | some b =>
      rw [e] at k
      cases b with
      | false => exact ih S xr k
      | true =>
        intro a d
        have k := k a d
        refine hsu a d X U B { nx := fun ρ1 μ1 => K.nx (goneE i ρ1) μ1, rt := K.rt, bk := fun ρ1 μ1 => K.bk (goneE i ρ1) μ1, ct := fun ρ1 μ1 => K.ct (goneE i ρ1) μ1, ex := fun _ _ _ => False } { nx := fun σ1 => V.nx (goneE i σ1), rt := V.rt, bk := fun σ1 => V.bk (goneE i σ1), ct := fun σ1 => V.ct (goneE i σ1), ex := fun _ _ => False } ⟨fun ρ μ σ S k => R.nx _ _ _ (gone_ok hi S) k, fun ρ μ σ S k => R.bk _ _ _ (gone_ok hi S) k, fun ρ μ σ S k => R.ct _ _ _ (gone_ok hi S) k, R.rt, fun _ _ _ _ _ _ _ k => k⟩ _ _ _ ?_ k
        cases i with
        | none => exact S
        | some i =>
          refine S.setS hi ?_
          refine rp_exv.mpr ⟨_, ?_, xr.2.2⟩
          show D.exv a d _ _ = _
          rw [xr.2.1]
theorem ss_try {isa : Str → Str → Option Bool} {tb : DS} {vb : VS} {hs : List DCl} {hs' : List VCl} (hb : SimS M rc tb vb) (h : ClsR M rc hs hs') : SimS M rc (sTry isa tb hs) (tTry isa vb hs') := fun X U B K V R ρ μ σ S k =>
  hb X U B { K with ex := fun x ρ1 μ1 => catchW isa K x hs ρ1 μ1 } { V with ex := fun x σ1 => catchV isa V x hs' σ1 } ⟨R.nx, R.bk, R.ct, R.rt, fun e e' ρ μ σ S x k => catch_ok R h S x k⟩ ρ μ σ S k
/-! ### comprehensions -/
theorem wipe_ok : ∀ {vs : List Nat}, (∀ i ∈ vs, M i = .s) → St X M U B ρ μ σ → St X M U B (wipeE ρ vs) μ (wipeE σ vs)
  | [], _, S => S
  | v :: vs, h, S => (wipe_ok (fun i hi => h i (List.mem_cons_of_mem _ hi)) S).goneB (h v (List.mem_cons_self ..))
theorem own_wipe {a : Nat} : ∀ {vs : List Nat}, (∀ i ∈ vs, M i = .s) → (Own M (wipeE ρ vs) (wipeE σ vs) a ↔ Own M ρ σ a)
  | [], _ => Iff.rfl
  | v :: vs, h => by
    have hv := h v (List.mem_cons_self ..)
    refine Iff.trans ⟨own_setS hv, fun ⟨j, ys, h1, h2, h3⟩ => ?_⟩ (own_wipe fun i hi => h i (List.mem_cons_of_mem _ hi))
    have n : v ≠ j := by intro z; subst z; rw [hv] at h1; cases h1
    exact ⟨j, ys, h1, by show look (setE _ v none) j = _; rw [look_other n]; exact h2, by show look (setE _ v none) j = _; rw [look_other n]; exact h3⟩
theorem slot_X {X' : Nat → Prop} {A A' : Nat → Prop} {m : Md} {od : Option D} {y : D} (hX : ∀ a, X a → X' a) (hown : m = .o → ∀ p, od = some (.loc p) → ¬ X p → ¬ X' p) (st : ∀ p o, ¬ A p → μ p = some o → ¬ A' p ∧ μ0 p = some o) (own : ∀ p ds, m = .o → od = some (.loc p) → μ p = some (.lst ds) → ¬ X p → B p = none → μ0 p = some (.lst ds)) (h : slotR X A U B μ m od y) : slotR X' A' U B μ0 m od y := by
  cases m with
  | s => obtain ⟨d, e, r⟩ := h; exact ⟨d, e, r.step st⟩
  | b =>
    obtain ⟨d, e, r⟩ := h
    refine ⟨d, e, ?_⟩
    rcases r with r | ⟨p, ds, ys, e1, e2, e3, e4, e5⟩
    · exact .inl (r.step st)
    · exact .inr ⟨p, ds, ys, e1, e2, e3, e4, e5.step st⟩
  | o =>
    have g : ∀ y, (∃ d, od = some d ∧ Rp A μ d y) → ∃ d, od = some d ∧ Rp A' μ0 d y := fun y ⟨d, z1, z2⟩ => ⟨d, z1, z2.step st⟩
    cases y with
    | rol ys =>
      obtain ⟨p, ds, z1, z2, z3, z4, z5⟩ := h
      exact ⟨p, ds, z1, own p ds rfl z1 z2 z4 z5, z3.step st, hown rfl p z1 z4, z5⟩
    | _ => exact g _ h
  | u K => exact h
  | k d0 y0 =>
    obtain ⟨z1, z2, p, ds, ys, e1, e2, e3, e4, e5⟩ := h
    exact ⟨z1, z2, p, ds, ys, e1, e2, hX p e3, e4, e5.step st⟩
/-- a new place stands beside -/
theorem St.newX {p : Nat} {o : O} (S : St X M U B ρ μ σ) (hp : μ p = none) : St (fun a => X a ∨ a = p) M U B ρ (put μ p o) σ := by
  have ne : ∀ a o', μ a = some o' → a ≠ p := fun a o' e z => by subst z; rw [hp] at e; cases e
  have st : ∀ q o', ¬ Av X M ρ σ q → μ q = some o' → ¬ Av (fun a => X a ∨ a = p) M ρ σ q ∧ put μ p o q = some o' := fun q o' h1 h2 => by
    refine ⟨fun z => ?_, by rw [put_ne (ne q o' h2)]; exact h2⟩
    rcases z with (z | z) | z
    · exact h1 (.inl z)
    · exact ne q o' h2 z
    · exact h1 (.inr z)
  refine ⟨S.len, fun i y h => ?_, fun a o' e => ?_, (sub_new hp).ok S.ok, S.bu, fun a c => .inl (S.ux a c), fun a c => .inl (S.lx a c), fun a h => ?_, S.dj, S.kp⟩
  · refine slot_X (X := X) (μ := μ) (fun a z => .inl z) (fun hm q e hq z => ?_) st (fun q ds _ _ e _ _ => by rw [put_ne (ne q _ e)]; exact e) (S.sl i y h)
    rcases z with z | z
    · exact hq z
    · have z2 := S.sl i y h
      rw [hm] at z2
      cases y with
      | rol ys =>
        obtain ⟨q', ds, w1, w2, _⟩ := z2
        rw [e] at w1; cases w1
        exact ne q _ w2 z
      | _ =>
        obtain ⟨d, w1, w2⟩ := z2
        rw [e] at w1; cases w1
        simp [Rp] at w2
  · have e := S.fr a o' e
    rw [put_ne (ne a o' e)]; exact e
  · by_cases n : a = p
    · subst n; rw [put_same]; intro z; cases z
    · rw [put_ne n]; exact S.xd a (h.resolve_right n)
theorem St.putX {p : Nat} {o : O} (S : St (fun a => X a ∨ a = p) M U B ρ μ σ) (hX : ¬ X p) (hC : ¬ U.cell p) (hB : B p = none) : St (fun a => X a ∨ a = p) M U B ρ (put μ p o) σ := by
  have st : ∀ q o', ¬ Av (fun a => X a ∨ a = p) M ρ σ q → μ q = some o' → ¬ Av (fun a => X a ∨ a = p) M ρ σ q ∧ put μ p o q = some o' := fun q o' h1 h2 => by
    have : q ≠ p := by intro z; exact h1 (.inl (.inr z))
    exact ⟨h1, by rw [put_ne this]; exact h2⟩
  refine ⟨S.len, fun i y h => ?_, fun a o' e => ?_, U.keep _ _ S.ok fun a o' c e => ?_, S.bu, S.ux, S.lx, fun a h => ?_, S.dj, S.kp⟩
  · refine slot_step st (fun q ds _ _ e hx _ => ?_) (S.sl i y h)
    have : q ≠ p := fun z => hx (.inr z)
    rw [put_ne this]; exact e
  · have : a ≠ p := by intro z; subst z; rw [hB] at e; cases e
    rw [put_ne this]; exact S.fr a o' e
  · have : a ≠ p := by intro z; subst z; exact hC c
    rw [put_ne this]; exact e
  · by_cases n : a = p
    · subst n; rw [put_same]; intro z; cases z
    · rw [put_ne n]; exact S.xd a h
theorem lc_turns {g : DG} {w : VG} {tt : DT} {vt : VT} {te : DE} {ve : VE} {A0 : Nat → Prop} {μ1 : Sto} {G : Sto → Prop} {p : Nat} {Q : Sto → Prop} {QV : VQ} {ρ0 σ0 : Ev} (hg : SimG M .s g w) (ht : SimT M tt vt) (he : SimE M .s te ve)
    (h0 : ∀ a, A0 a ↔ Av X M ρ0 σ0 a) (hp : μ1 p = none) (hX : ¬ X p) (hC : ¬ U.cell p) (hB : B p = none) (hU : ∀ a, U.cell a → A0 a) (hG : ∀ μ, FrU U μ1 μ → G μ)
    (fin : ∀ ds ys μ, QV (.rol ys) → FrU U μ1 μ → U.ok μ → lstAt μ p = some ds → Rps (Av (fun a => X a ∨ a = p) M ρ0 σ0) μ ds ys → Q μ) :
    ∀ (xs ys ds vs : List D) (μ : Sto), Rps A0 μ1 xs ys → FrU U μ1 μ → St (fun a => X a ∨ a = p) M U B ρ0 μ σ0 → lstAt μ p = some ds → Rps (Av (fun a => X a ∨ a = p) M ρ0 σ0) μ ds vs → lcV w vt ve σ0 QV ys vs → lcW G g tt te ρ0 p Q xs μ
  | [], [], ds, vs, μ, _, F, S, e, r, k => ⟨hG μ F, fin ds vs μ k F S.ok e r⟩
  | x :: xs, y :: ys, ds, vs, μ, rx, F, S, e, r, k => by
    simp only [Rps] at rx
    refine ⟨hG μ F, ?_⟩
    have r1 : Rp (Av (fun a => X a ∨ a = p) M ρ0 σ0) μ x y := rx.1.step fun q o h1 h2 => by
      refine ⟨fun z => ?_, F q o (fun c => h1 (hU q c)) h2⟩
      rcases z with (z | z) | z
      · exact h1 ((h0 q).mpr (.inl z))
      · subst z; rw [hp] at h2; cases h2
      · exact h1 ((h0 q).mpr (.inr z))
    refine hg _ U B ρ0 μ μ σ0 x y _ _ _ S (.refl _) S.ok r1 k fun ρ1 σ1 S1 ow k1 => ?_
    refine ht _ U B ρ1 μ σ1 S1 _ _ _ _ k1 (fun b μ2 k2 F2 o2 => ?_) fun _ _ _ k _ _ _ => k
    have S2 := S.step F2 o2
    have e2 : lstAt μ2 p = some ds := lstAt_of (F2 p _ hC (lstAt_some e))
    have r2 := r.step (S.rpF F2)
    cases b with
    | false => exact lc_turns hg ht he h0 hp hX hC hB hU hG fin xs ys ds vs μ2 rx.2 (F.trans F2) S2 e2 r2 k2
    | true =>
      refine he _ U B ρ1 μ2 σ1 (S1.step F2 o2) _ _ _ _ k2 (fun d z μ3 k3 F3 o3 c3 => ?_) fun _ _ _ k _ _ _ => k
      have S3 := S2.step F3 o3
      have e3 : lstAt μ3 p = some ds := lstAt_of (F3 p _ hC (lstAt_some e2))
      have r3 := r2.step (S2.rpF F3)
      rw [e3]
      have c4 : Rp (Av (fun a => X a ∨ a = p) M ρ0 σ0) μ3 d z := Rp.step (fun q o h1 h2 => ⟨fun z => h1 (z.imp id (ow rfl q)), h2⟩) c3
      refine ⟨by rw [r3.len]; exact k3.1, ?_⟩
      have S4 : St (fun a => X a ∨ a = p) M U B ρ0 (put μ3 p (.lst (ds ++ [d]))) σ0 := S3.putX hX hC hB
      have F4 : FrU U μ1 (put μ3 p (.lst (ds ++ [d]))) := fun a o n e9 => by
        have : a ≠ p := by intro z; rw [z, hp] at e9; cases e9
        rw [put_ne this]; exact ((F.trans F2).trans F3) a o n e9
      refine lc_turns hg ht he h0 hp hX hC hB hU hG fin xs ys (ds ++ [d]) (vs ++ [z]) _ rx.2 F4 S4 lstAt_put ((r3.app (.one c4)).step fun q o h1 h2 => ⟨h1, ?_⟩) k3.2
      have : q ≠ p := fun z => h1 (.inl (.inr z))
      rw [put_ne this]; exact h2
  | [], _ :: _, _, _, _, r, _, _, _, _, _ => by simp [Rps] at r
  | _ :: _, [], _, _, _, r, _, _, _, _, _ => by simp [Rps] at r
theorem se_lc {wi : DI} {vi : VI} {g : DG} {w : VG} {tt : DT} {vt : VT} {te : DE} {ve : VE} {vs : List Nat} (hv : ∀ i ∈ vs, M i = .s) (hi : SimI M .b wi vi) (hg : SimG M .s g w) (ht : SimT M tt vt) (he : SimE M .s te ve) : SimE M .f (dLc wi g tt te vs) (vLc vi w vt ve vs) := fun X U B ρ μ σ S QV EV Q E k q e => by
  refine hi X U B ρ μ σ S _ _ _ _ k (fun xs ys G μ1 k F o r hG => ?_) e
  have S1 := S.step F o
  intro p hp
  have hX : ¬ X p := fun z => S1.xd p z hp
  have hC : ¬ U.cell p := fun z => hX (S1.ux p z)
  have hB : B p = none := by
    cases hb : B p with
    | none => rfl
    | some o => rw [S1.fr p o hb] at hp; cases hp
  have sub : ∀ μ, FrU U (put μ1 p (.lst [])) μ → FrU U μ1 μ := fun μ F => (sub_new hp).fru.trans F
  refine lc_turns (A0 := Av X M ρ σ) (μ1 := μ1) (QV := QV) hg ht he (fun a => ⟨fun z => z.imp id (own_wipe hv).mpr, fun z => z.imp id (own_wipe hv).mp⟩) hp hX hC hB (fun a c => S.uav c) (fun μ F => hG μ F) (fun ds vs' μ k' F' o' e' r' => ?_) xs ys [] [] _ r (sub_new hp).fru ((wipe_ok hv S1).newX hp) lstAt_put (by simp [Rps]) k
  refine q _ _ μ k' (F.trans F') o' ⟨p, ds, rfl, F.un o hp, lstAt_some e', r'.step fun q o h1 h2 => ⟨fun z => h1 ?_, h2⟩⟩
  rcases z with (z | z) | z
  · exact .inl (.inl z)
  · exact .inr ((own_wipe hv).mpr z)
  · exact .inl (.inr z)
/-! ### changes of own lists -/
theorem own_at (S : St X M U B ρ μ σ) {i : Nat} (hm : M i = .o) {k : List D → Prop} (h : own σ i k) : ∃ p ds ys, look σ i = some (.rol ys) ∧ look ρ i = some (.loc p) ∧ μ p = some (.lst ds) ∧ Rps (Av X M ρ σ) μ ds ys ∧ (¬ X p ∧ B p = none) ∧ k ys := by
  unfold own at h
  cases hs : look σ i with
  | none => rw [hs] at h; exact h.elim
  | some y =>
    rw [hs] at h
    cases y with
    | rol ys =>
      have z := S.sl i _ hs
      rw [hm] at z
      obtain ⟨p, ds, hr, hp, el, hX, hBp⟩ := z
      exact ⟨p, ds, ys, rfl, hr, hp, el, ⟨hX, hBp⟩, h⟩
    | _ => exact h.elim
theorem ss_app {i : Nat} {t : DE} {v : VE} (hm : M i = .o) (h : SimE M .s t v) : SimS M rc (sDrop (dMeth .list mAppend (dVar i) (dCons t dNil))) (tApp i v) := fun X U B K V R ρ μ σ S k => by
  obtain ⟨p, ds, ys, hs, hr, hp, el, hn, k⟩ := own_at S hm k
  show opt (look ρ i) _
  rw [hr]
  refine ⟨by show (lstAt μ p).isSome = true; rw [lstAt_of hp]; rfl, ?_⟩
  refine h X U B ρ μ σ S _ _ _ _ k (fun d y μ' k F o c => ?_) fun e e' μ' k F o x => R.ex _ _ _ _ _ (S.step F o) x k
  have S1 := S.step F o
  have hp' : μ' p = some (.lst ds) := F p _ (fun c => hn.1 (S.ux p c)) hp
  have el' := el.step (S.rpF F)
  show opt (lstAt μ' p) _
  rw [lstAt_of hp']
  exact ⟨by rw [el'.len]; exact k.1, R.nx _ _ _ (S1.mut hm hs hr hn (el'.app (.one c))) k.2⟩
theorem ss_set {i : Nat} {ti t : DE} {vi v : VE} (hm : M i = .o) (hi : SimE M .b ti vi) (h : SimE M .s t v) : SimS M rc (sAsg t (gSub (dVar i) ti)) (tSet i vi v) := fun X U B K V R ρ μ σ S k => by
  obtain ⟨p, ds, ys, hs, hr, hp, el, hn, k⟩ := own_at S hm k
  refine h X U B ρ μ σ S _ _ _ _ k (fun d y μ1 k F o c => ?_) fun e e' μ' k F o x => R.ex _ _ _ _ _ (S.step F o) x k
  have S1 := S.step F o
  have hp' : μ1 p = some (.lst ds) := F p _ (fun c => hn.1 (S.ux p c)) hp
  show opt (look ρ i) _
  rw [hr]
  refine hi X U B ρ μ1 σ S1 _ _ _ _ k (fun d2 y2 μ2 k2 F2 o2 c2 => ?_) fun e e' μ' k F o x => R.ex _ _ _ _ _ (S1.step F o) x k
  cases y2 with
  | int n =>
    rw [b_int c2]
    have S2 := S1.step F2 o2
    have F12 := F.trans F2
    have hp2 : μ2 p = some (.lst ds) := F2 p _ (fun c => hn.1 (S.ux p c)) hp'
    have el2 := el.step (S.rpF F12)
    have k2 : opt (ixN ys.length n) fun j => V.nx (setE σ i (some (.rol (ys.set j y)))) := k2
    show opt (lstAt μ2 p) _
    rw [lstAt_of hp2]
    show opt (ixN ds.length n) _
    rw [el2.len]
    cases hj : ixN ys.length n with
    | none => rw [hj] at k2; exact k2.elim
    | some j =>
      rw [hj] at k2
      exact R.nx _ _ _ (S2.mut hm hs hr hn (el2.set (Cls.step (c := .s) (μ := μ1) S1 F2 c))) k2
  | _ => exact k2.elim
theorem pop_of (S : St X M U B ρ μ σ) {i p : Nat} {ys : List D} (hm : M i = .o) (hs : look σ i = some (.rol ys)) (hr : look ρ i = some (.loc p)) {ds' ys' : List D} {d y : D} (r : Rp (Av X M ρ σ) μ d y) :
    Rp (Av X M ρ (setE σ i (some (.rol ys')))) (put μ p (.lst ds')) d y := by
  have ow : ∀ q, Own M ρ (setE σ i (some (.rol ys'))) q → Own M ρ σ q := fun q ⟨j, zs, w1, w2, w3⟩ => by
    by_cases n : i = j
    · subst n; exact ⟨i, ys, w1, hs, w3⟩
    · rw [look_other n] at w2; exact ⟨j, zs, w1, w2, w3⟩
  refine r.step fun q o h1 h2 => ⟨fun z => h1 (z.imp id (ow q)), ?_⟩
  have : q ≠ p := by intro z; subst z; exact h1 (.inr ⟨i, ys, hm, hs, hr⟩)
  rw [put_ne this]; exact h2
theorem ss_pop {i : Nat} {g : DG} {w : VG} (hm : M i = .o) (hg : SimG M .s g w) : SimS M rc (sAsg (dMeth0 .list mPop (dVar i)) g) (tPop i w) := fun X U B K V R ρ μ σ S k => by
  obtain ⟨p, ds, ys, hs, hr, hp, el, hn, k⟩ := own_at S hm k
  show opt (look ρ i) _
  rw [hr]
  refine ⟨by show (lstAt μ p).isSome = true; rw [lstAt_of hp]; rfl, ?_⟩
  show opt (lstAt μ p) _
  rw [lstAt_of hp]
  show opt (ds[ds.length - 1]?) _
  rw [el.len]
  cases hy : ys[ys.length - 1]? with
  | none => rw [hy] at k; exact k.elim
  | some y =>
    rw [hy] at k
    obtain ⟨d, e, r⟩ := el.get hy
    rw [e]
    have S' := S.mut hm hs hr hn el.dropLast
    exact hg X U B ρ _ _ _ d y _ _ _ S' (.refl _) S'.ok (pop_of S hm hs hr r) k fun ρ' σ' S2 _ k' => R.nx _ _ _ S2 k'
theorem ss_popD {i : Nat} (hm : M i = .o) : SimS M rc (sDrop (dMeth0 .list mPop (dVar i))) (tPop i hDrop) := fun X U B K V R ρ μ σ S k => by
  obtain ⟨p, ds, ys, hs, hr, hp, el, hn, k⟩ := own_at S hm k
  show opt (look ρ i) _
  rw [hr]
  refine ⟨by show (lstAt μ p).isSome = true; rw [lstAt_of hp]; rfl, ?_⟩
  show opt (lstAt μ p) _
  rw [lstAt_of hp]
  show opt (ds[ds.length - 1]?) _
  rw [el.len]
  cases hy : ys[ys.length - 1]? with
  | none => rw [hy] at k; exact k.elim
  | some y =>
    rw [hy] at k
    obtain ⟨d, e, r⟩ := el.get hy
    rw [e]
    exact R.nx _ _ _ (S.mut hm hs hr hn el.dropLast) k
theorem pop1_core {i : Nat} {t : DE} {v : VE} (hm : M i = .o) (h : SimE M .b t v) (S : St X M U B ρ μ σ) {P : D → List D → Prop} {EV : VX} {Q : QE} {E : QX}
    (k : own σ i fun xs => v σ (fun k => asI k fun k => (-(2 ^ 63) ≤ k ∧ k < 2 ^ 63) ∧ opt (ixN xs.length k) fun j => opt (xs[j]?) fun y => P y (xs.eraseIdx j)) EV)
    (q : ∀ d y μ' ys', P y ys' → (∀ a o, ¬ U.cell a → look ρ i ≠ some (.loc a) → μ a = some o → μ' a = some o) → St X M U B ρ μ' (setE σ i (some (.rol ys'))) → Rp (Av X M ρ (setE σ i (some (.rol ys')))) μ' d y → Q d μ')
    (qe : ∀ e e' μ', EV e' → FrU U μ μ' → U.ok μ' → XR (Av X M ρ σ) μ' e e' → E e μ') : dMeth .list mPop (dVar i) (dCons t dNil) ρ μ Q E := by
  obtain ⟨p, ds, ys, hs, hr, hp, el, hn, k⟩ := own_at S hm k
  show opt (look ρ i) _
  rw [hr]
  refine ⟨by show (lstAt μ p).isSome = true; rw [lstAt_of hp]; rfl, ?_⟩
  refine h X U B ρ μ σ S _ _ _ _ k (fun d y μ' k F o c => ?_) qe
  cases y with
  | int n =>
    rw [b_int c]
    have S1 := S.step F o
    have hp' : μ' p = some (.lst ds) := F p _ (fun c => hn.1 (S.ux p c)) hp
    have el' := el.step (S.rpF F)
    have k : (-(2 ^ 63) ≤ n ∧ n < 2 ^ 63) ∧ opt (ixN ys.length n) fun j => opt (ys[j]?) fun y => P y (ys.eraseIdx j) := k
    show opt (lstAt μ' p) _
    rw [lstAt_of hp']
    refine ⟨k.1, ?_⟩
    have k := k.2
    show opt (ixN ds.length n) _
    rw [el'.len]
    cases hj : ixN ys.length n with
    | none => rw [hj] at k; exact k.elim
    | some j =>
      rw [hj] at k
      have k : opt (ys[j]?) fun y => P y (ys.eraseIdx j) := k
      show opt (ds[j]?) _
      cases hy : ys[j]? with
      | none => rw [hy] at k; exact k.elim
      | some y =>
        rw [hy] at k
        obtain ⟨d, e, r⟩ := el'.get hy
        rw [e]
        refine q d y _ _ k (fun a o n1 n2 e => ?_) (S1.mut hm hs hr hn el'.erase) (pop_of S1 hm hs hr r)
        have : a ≠ p := by intro z; subst z; exact n2 hr
        rw [put_ne this]; exact F a o n1 e
  | _ => exact k.elim
theorem ss_pop1 {i : Nat} {t : DE} {v : VE} {g : DG} {w : VG} (hm : M i = .o) (h : SimE M .b t v) (hg : SimG M .s g w) : SimS M rc (sAsg (dMeth .list mPop (dVar i) (dCons t dNil)) g) (tPop1 i v w) := fun X U B K V R ρ μ σ S k =>
  pop1_core (P := fun y ys' => w y (setE σ i (some (.rol ys'))) V.nx) hm h S k (fun d y μ' ys' k _ S' r => hg X U B ρ _ _ _ d y _ _ _ S' (.refl _) S'.ok r k fun ρ' σ' S2 _ k' => R.nx _ _ _ S2 k') fun e e' μ' k F o x => R.ex _ _ _ _ _ (S.step F o) x k
theorem ss_pop1D {i : Nat} {t : DE} {v : VE} (hm : M i = .o) (h : SimE M .b t v) : SimS M rc (sDrop (dMeth .list mPop (dVar i) (dCons t dNil))) (tPop1 i v hDrop) := fun X U B K V R ρ μ σ S k =>
  pop1_core (P := fun _ ys' => V.nx (setE σ i (some (.rol ys')))) hm h S k (fun d y μ' ys' k _ S' r => R.nx _ _ _ S' k) fun e e' μ' k F o x => R.ex _ _ _ _ _ (S.step F o) x k
/-- an own list's name is given up: it may be kept from now on -/
theorem St.moved (S : St X M U B ρ μ σ) {i : Nat} {y : D} (hm : M i = .o) (hs : look σ i = some y) : ∃ d, look ρ i = some d ∧ Rp (Av X M ρ (setE σ i none)) μ d y := by
  have z := S.sl i y hs
  rw [hm] at z
  have sub : ∀ q, Own M ρ (setE σ i none) q → Own M ρ σ q ∧ (∀ ys, y = .rol ys → look ρ i ≠ some (.loc q)) := fun q ⟨j, ys, w1, w2, w3⟩ => by
    by_cases n : i = j
    · subst n; rw [look_self (look_lt hs)] at w2; cases w2
    · rw [look_other n] at w2
      refine ⟨⟨j, ys, w1, w2, w3⟩, fun zs e h => ?_⟩
      subst e
      exact n (S.dj i j zs ys q hm w1 hs w2 h w3)
  have st : ∀ q o, ¬ Av X M ρ σ q → μ q = some o → ¬ Av X M ρ (setE σ i none) q ∧ μ q = some o := fun q o h1 h2 => ⟨fun z => h1 (z.imp id fun w => (sub q w).1), h2⟩
  have g : ∀ y, (∃ d, look ρ i = some d ∧ Rp (Av X M ρ σ) μ d y) → ∃ d, look ρ i = some d ∧ Rp (Av X M ρ (setE σ i none)) μ d y := fun y ⟨d, z1, z2⟩ => ⟨d, z1, z2.step st⟩
  cases y with
  | rol ys =>
    obtain ⟨p, ds, hr, hp, el, hX, hBp⟩ := z
    refine ⟨_, hr, rp_rol.mpr ⟨p, ds, rfl, fun w => ?_, hp, el.step st⟩⟩
    rcases w with w | w
    · exact hX w
    · exact (sub p w).2 ys rfl hr
  | _ => exact g _ z
theorem ss_mv {i j : Nat} (hm : M i = .o) (hj : M j = .s) : SimS M rc (sAsg (dVar i) (gName j)) (tMv i j) := fun X U B K V R ρ μ σ S k => by
  have k : opt (look σ i) fun x => V.nx (setE (setE σ i none) j (some x)) := k
  cases hs : look σ i with
  | none => rw [hs] at k; exact k.elim
  | some y =>
    rw [hs] at k
    obtain ⟨d, hr, r⟩ := S.moved hm hs
    show opt (look ρ i) _
    rw [hr]
    exact R.nx _ _ _ ((S.gone fun d y e => by rw [hm] at e; cases e).setS hj r) k
theorem ss_appMv {i j : Nat} (hm : M i = .o) (hj : M j = .o) (hij : j ≠ i) : SimS M rc (sDrop (dMeth .list mAppend (dVar i) (dCons (dVar j) dNil))) (tAppMv i j) := fun X U B K V R ρ μ σ S k => by
  obtain ⟨p, ds, ys, hs, hr, hp, el, hn, k⟩ := own_at S hm k
  have k : opt (look σ j) fun y => ys.length < LINE ∧ V.nx (setE (setE σ j none) i (some (.rol (ys ++ [y])))) := k
  cases hs2 : look σ j with
  | none => rw [hs2] at k; exact k.elim
  | some y =>
    rw [hs2] at k
    obtain ⟨d, hr2, r⟩ := S.moved hj hs2
    have S1 : St X M U B ρ μ (setE σ j none) := S.gone fun d y e => by rw [hj] at e; cases e
    have hs1 : look (setE σ j none) i = some (.rol ys) := by rw [look_other hij]; exact hs
    obtain ⟨p', ds', ys', e1, e2, e3, el1, hn1, _⟩ := own_at S1 hm (k := fun _ => True) (by unfold own; rw [hs1]; exact trivial)
    rw [hs1] at e1; cases e1
    rw [hr] at e2; cases e2
    rw [hp] at e3; cases e3
    show opt (look ρ i) _
    rw [hr]
    refine ⟨by show (lstAt μ p).isSome = true; rw [lstAt_of hp]; rfl, ?_⟩
    show opt (look ρ j) _
    rw [hr2]
    show opt (lstAt μ p) _
    rw [lstAt_of hp]
    exact ⟨by rw [el.len]; exact k.1, R.nx _ _ _ (S1.mut hm hs1 hr hn (el1.app (.one r))) k.2⟩
end
/-! ### defs -/
def mdOf : Kl → Md
  | .b => .b
  | .s => .s
  | .f => .o
  | .u K => .u K
/-- the modes of the slots: parameters, then the other names -/
def mdF (cs : List Kl) (ls : List Md) : Nat → Md := fun i => (cs.map mdOf ++ ls).getD i .s
theorem look_init : ∀ (ds : List D) (m i : Nat), look (ds.map some ++ List.replicate m none) i = ds[i]?
  | [], 0, i => by simp [look]
  | [], m + 1, 0 => by simp [look, List.replicate_succ]
  | [], m + 1, i + 1 => by
    have := look_init [] m i
    simpa [List.replicate_succ, look] using this
  | d :: ds, m, 0 => by simp [look]
  | d :: ds, m, i + 1 => by
    have := look_init ds m i
    simpa [look] using this
theorem argL_len {A : Nat → Prop} {U : Pl} {μ : Sto} : ∀ {cs : List Kl} {ds ys : List D}, ArgL A U μ cs ds ys → cs.length = ds.length ∧ ds.length = ys.length
  | [], [], [], _ => ⟨rfl, rfl⟩
  | c :: cs, d :: ds, y :: ys, h => by
    have := argL_len h.2
    exact ⟨congrArg Nat.succ this.1, congrArg Nat.succ this.2⟩
theorem argL_get {A : Nat → Prop} {U : Pl} {μ : Sto} : ∀ {cs : List Kl} {ds ys : List D} {i : Nat} {y : D}, ArgL A U μ cs ds ys → ys[i]? = some y → ∃ c d, cs[i]? = some c ∧ ds[i]? = some d ∧ Cls c A U μ μ d y
  | c :: cs, d :: ds, y :: ys, 0, z, h, e => by
    simp at e; subst e
    exact ⟨c, d, by simp, by simp, h.1⟩
  | c :: cs, d :: ds, y :: ys, i + 1, z, h, e => by
    simp at e
    obtain ⟨c', d', h1, h2, h3⟩ := argL_get h.2 e
    exact ⟨c', d', by simpa using h1, by simpa using h2, h3⟩
  | [], [], [], i, z, _, e => by simp at e
theorem mdF_par {cs : List Kl} {ls : List Md} {i : Nat} {c : Kl} (h : cs[i]? = some c) : mdF cs ls i = mdOf c := by
  unfold mdF
  have hi : i < cs.length := by
    rcases Nat.lt_or_ge i cs.length with z | z
    · exact z
    · rw [List.getElem?_eq_none z] at h; cases h
  rw [List.getD_eq_getElem?_getD, List.getElem?_append_left (by simpa using hi), List.getElem?_map, h]
  rfl
theorem mdF_noK {cs : List Kl} {ls : List Md} (hk : (ls.all fun c => match c with | .k _ _ => false | _ => true) = true) : ∀ i d y, mdF cs ls i ≠ .k d y := fun i d y hh => by
  unfold mdF at hh
  rw [List.getD_eq_getElem?_getD] at hh
  cases z : (cs.map mdOf ++ ls)[i]? with
  | none => rw [z] at hh; cases hh
  | some c =>
    rw [z] at hh
    have hh : c = .k d y := hh
    subst hh
    rcases List.mem_append.mp (List.mem_of_getElem? z) with w | w
    · obtain ⟨c, _, w⟩ := List.mem_map.mp w
      cases c <;> cases w
    · have := List.all_eq_true.mp hk _ w
      cases this
open Classical in
theorem fsim_mk {cs : List Kl} {ls : List Md} {rc : Kl} {n m : Nat} {b : DS} {v : VS} (hf : (cs.all fun c => match c with | .f => false | _ => true) = true) (hk : (ls.all fun c => match c with | .k _ _ => false | _ => true) = true) (hr : match rc with | .s => True | .f => True | _ => False) (h : SimS (mdF cs ls) rc b v) : FSim cs rc (prBody n m b) (vBody n m v) := fun X U μ ds ys ok ux xd a0 QV EV Q E k q e => by
  obtain ⟨k1, k⟩ := k
  have hl := argL_len a0
  refine ⟨Q, E, by rw [hl.2]; exact k1, ?_, fun _ μ1 z => ⟨μ1, Sub.refl _, z⟩, fun _ μ1 z => ⟨μ1, Sub.refl _, z⟩⟩
  have noK : ∀ i d y, mdF cs ls i ≠ .k d y := fun i d y hh => by
    unfold mdF at hh
    rw [List.getD_eq_getElem?_getD] at hh
    cases z : (cs.map mdOf ++ ls)[i]? with
    | none => rw [z] at hh; cases hh
    | some c =>
      rw [z] at hh
      have hh : c = .k d y := hh
      subst hh
      rcases List.mem_append.mp (List.mem_of_getElem? z) with w | w
      · obtain ⟨c, _, w⟩ := List.mem_map.mp w
        cases c <;> cases w
      · have := List.all_eq_true.mp hk _ w
        cases this
  have noF : ∀ (i : Nat) (c : Kl), cs[i]? = some c → c ≠ Kl.f := fun i c hh z => by
    subst z
    have := List.all_eq_true.mp hf _ (List.mem_of_getElem? hh)
    cases this
  have noO : ∀ a, ¬ Own (mdF cs ls) (ds.map some ++ List.replicate m none) (ys.map some ++ List.replicate m none) a := fun a ⟨i, zs, w1, w2, w3⟩ => by
    rw [look_init] at w2
    obtain ⟨c, d, h1, h2, h3⟩ := argL_get a0 w2
    rw [mdF_par h1] at w1
    cases c with
    | f => exact noF i _ h1 rfl
    | _ => cases w1
  let U' : Pl := { toPo := U.toPo, lent := X }
  have st : ∀ q o, ¬ X q → μ q = some o → ¬ Av X (mdF cs ls) (ds.map some ++ List.replicate m none) (ys.map some ++ List.replicate m none) q ∧ μ q = some o := fun q o h1 h2 => ⟨fun z => z.elim h1 (noO q), h2⟩
  have hB : ∀ a, (if U.cell a then none else μ a) = none → ¬ X a → μ a = none := fun a e n => by
    by_cases c : U.cell a
    · exact absurd (ux a c) n
    · rw [if_neg c] at e; exact e
  have S : St X (mdF cs ls) U' (fun a => if U.cell a then none else μ a) (ds.map some ++ List.replicate m none) μ (ys.map some ++ List.replicate m none) := by
    refine ⟨by simp [hl.2], fun i y h => ?_, fun a o e => ?_, ok, fun a c => if_pos c, ux, fun a h => h, xd, fun i j zs _ a w1 _ w3 _ w5 _ => absurd ⟨i, zs, w1, w3, w5⟩ (noO a), fun i d y h => absurd h (noK i d y)⟩
    · rw [look_init] at h ⊢
      obtain ⟨c, d, h1, h2, h3⟩ := argL_get a0 h
      rw [mdF_par h1, h2]
      cases c with
      | f => exact absurd rfl (noF i _ h1)
      | s => exact ⟨d, rfl, Rp.step st h3⟩
      | b =>
        refine ⟨d, rfl, ?_⟩
        rcases h3 with h3 | ⟨p, ds', zs, e1, e2, e3, e4, e5, e6⟩
        · exact .inl (h3.step st)
        · exact .inr ⟨p, ds', zs, e1, e2, e3, by simp only [if_neg e4]; exact e5, e6.step st⟩
      | u K => exact ⟨by rw [h3.1], h3.2⟩
    · by_cases c : U.cell a
      · simp only [if_pos c] at e; cases e
      · simp only [if_neg c] at e; exact e
  have fr : ∀ {μ' : Sto}, Sub (fun a => if U.cell a then none else μ a) μ' → FrU U μ μ' := fun s a o n e => s a o (by simp only [if_neg n]; exact e)
  refine h X U' _ _ { nx := fun _ => QV .non, rt := QV, bk := fun _ => False, ct := fun _ => False, ex := fun x _ => EV x } ⟨fun ρ μ' σ S' k => ?_, fun _ _ _ _ k => k, fun _ _ _ _ k => k, fun d y μ' s o c k => ?_, fun e0 e' ρ μ' σ S' x k => ?_⟩ _ _ _ S k
  · refine q _ _ μ' k (fr S'.fr) S'.ok ?_
    cases rc with
    | s => exact (rp_non (A := X) (μ := μ')).mpr rfl
    | f => exact (rp_non (A := X) (μ := μ')).mpr rfl
    | _ => exact hr.elim
  · refine q _ _ μ' k (fr s) o ?_
    cases rc with
    | f =>
      cases y with
      | rol zs =>
        obtain ⟨p, ds', e1, e2, e3, e4, e5⟩ := c
        exact ⟨p, ds', e1, hB p e2 e3, e4, e5⟩
      | _ => exact c
    | s => exact c
    | b => exact .inl c
    | u K => exact c
  · exact e _ _ μ' k (fr S'.fr) S'.ok (x.step fun q o h1 h2 => ⟨fun z => h1 (.inl z), h2⟩)
end PD
set_option linter.all false
/-! PDVMore: further constructs over values: list(range(n)), del, a comprehension that takes from an own list. -/
namespace PD
open PySem
def oListR : W1 := fun x Q => match x with
  | .int j => (-(2 ^ 62) ≤ j ∧ j ≤ 16777216) ∧ Q (.rol (rangeL 0 j.toNat))
  | _ => False
def tDel (i : Nat) (e : VE) : VS := fun K σ => own σ i fun xs => e σ (fun k => asI k fun k => (-(2 ^ 63) ≤ k ∧ k < 2 ^ 63) ∧ opt (ixN xs.length k) fun j => K.nx (setE σ i (some (.rol (xs.eraseIdx j))))) (fun x => K.ex x σ)
/-- [x.pop(e) for t in ..]: the list x (slot i), what is made so far -/
def popW (i t : Nat) (te : VE) (Q : List D → List D → Prop) (σ : Ev) : List D → List D → List D → Prop
  | [], xs, acc => Q xs acc
  | y :: ys, xs, acc => te (setE (setE (setE σ t none) i (some (.rol xs))) t (some y)) (fun k => asI k fun k => (-(2 ^ 63) ≤ k ∧ k < 2 ^ 63) ∧ opt (ixN xs.length k) fun j => opt (xs[j]?) fun d => acc.length < LINE ∧ popW i t te Q σ ys (xs.eraseIdx j) (acc ++ [d])) (fun _ => False)
/-- z = tuple([x.pop(e) for t in ..]); t's name is told no more -/
def tPopT (j i t : Nat) (vi : VI) (te : VE) : VS := fun K σ => own σ i fun xs => vi σ (fun ys => popW i t te (fun xs acc => K.nx (setE (setE (setE σ t none) i (some (.rol xs))) j (some (.tup acc)))) σ ys xs []) (fun x => K.ex x σ)
theorem op_listR : Op1 .f uListR oListR := fun A U μ d y hA c1 QV Q k q => by
  cases y with
  | int j =>
    rw [b_int c1]
    exact ⟨k.1, fun p hp => q _ _ _ k.2 (sub_new hp) (new_list hp (rps_range _ _))⟩
  | _ => exact k.elim
section
variable {X : Nat → Prop} {M : Nat → Md} {U : Pl} {B : Sto} {ρ σ : Ev} {μ μ0 : Sto} {rc : Kl}
theorem ss_del {i : Nat} {t : DE} {v : VE} (hm : M i = .o) (h : SimE M .b t v) : SimS M rc (sDel (dVar i) t) (tDel i v) := fun X U B K V R ρ μ σ S k => by
  obtain ⟨p, ds, ys, hs, hr, hp, el, hn, k⟩ := own_at S hm k
  show opt (look ρ i) _
  rw [hr]
  refine h X U B ρ μ σ S _ _ _ _ k (fun d y μ' k F o c => ?_) fun e e' μ' k F o x => R.ex _ _ _ _ _ (S.step F o) x k
  cases y with
  | int n =>
    rw [b_int c]
    have S1 := S.step F o
    have hp' : μ' p = some (.lst ds) := F p _ (fun c => hn.1 (S.ux p c)) hp
    have el' := el.step (S.rpF F)
    have k : (-(2 ^ 63) ≤ n ∧ n < 2 ^ 63) ∧ opt (ixN ys.length n) fun j => V.nx (setE σ i (some (.rol (ys.eraseIdx j)))) := k
    refine ⟨k.1, ?_⟩
    have k := k.2
    show opt (lstAt μ' p) _
    rw [lstAt_of hp']
    show opt (ixN ds.length n) _
    rw [el'.len]
    cases hj : ixN ys.length n with
    | none => rw [hj] at k; exact k.elim
    | some j =>
      rw [hj] at k
      exact R.nx _ _ _ (S1.mut hm hs hr hn el'.erase) k
  | _ => exact k.elim
theorem setE_setE : ∀ {ρ : Ev} {i : Nat} {x y : Option D}, setE (setE ρ i x) i y = setE ρ i y
  | [], _, _, _ => rfl
  | _ :: _, 0, _, _ => rfl
  | a :: r, i + 1, x, y => congrArg (a :: ·) setE_setE
theorem setE_comm : ∀ {ρ : Ev} {i j : Nat} {x y : Option D}, i ≠ j → setE (setE ρ i x) j y = setE (setE ρ j y) i x
  | [], _, _, _, _, _ => rfl
  | a :: r, 0, 0, _, _, h => absurd rfl h
  | a :: r, 0, j + 1, _, _, _ => rfl
  | a :: r, i + 1, 0, _, _, _ => rfl
  | a :: r, i + 1, j + 1, x, y, h => congrArg (a :: ·) (setE_comm (fun z => h (congrArg Nat.succ z)))
theorem pop_turns {i t : Nat} {te : DE} {ve : VE} {A0 : Nat → Prop} {μ1 : Sto} {G : Sto → Prop} {p : Nat} {Q : Sto → Prop} {QV : List D → List D → Prop} {σ0 : Ev} (hm : M i = .o) (ht : M t = .s) (hti : t ≠ i) (he : SimE M .b te ve)
    (hA0 : ∀ a, A0 a → μ1 a ≠ none) (hAX : ∀ a, X a → A0 a) (hi : i < σ0.length) (hown : ∀ xs a, Own M (setE ρ t none) (setE (setE σ0 t none) i (some (.rol xs))) a → A0 a) (hp : μ1 p = none) (hX : ¬ X p) (hC : ¬ U.cell p) (hB : B p = none) (hU : ∀ a, U.cell a → A0 a) (hG : ∀ μ, (∀ a o, ¬ A0 a → μ1 a = some o → μ a = some o) ∧ Sub B μ → G μ)
    (fin : ∀ ds ys xs μ, QV xs ys → (∀ a o, ¬ A0 a → μ1 a = some o → μ a = some o) → St (fun a => X a ∨ a = p) M U B (setE ρ t none) μ (setE (setE σ0 t none) i (some (.rol xs))) → lstAt μ p = some ds → Rps (Av (fun a => X a ∨ a = p) M (setE ρ t none) (setE (setE σ0 t none) i (some (.rol xs)))) μ ds ys → Q μ) :
    ∀ (xs ys ds vs zs : List D) (μ : Sto), Rps A0 μ1 xs ys → (∀ a o, ¬ A0 a → μ1 a = some o → μ a = some o) → St (fun a => X a ∨ a = p) M U B (setE ρ t none) μ (setE (setE σ0 t none) i (some (.rol zs))) → lstAt μ p = some ds → Rps (Av (fun a => X a ∨ a = p) M (setE ρ t none) (setE (setE σ0 t none) i (some (.rol zs)))) μ ds vs →
      popW i t ve QV σ0 ys zs vs → lcW G (gName t) tYes (dMeth .list mPop (dVar i) (dCons te dNil)) (setE ρ t none) p Q xs μ
  | [], [], ds, vs, zs, μ, _, F, S, e, r, k => ⟨hG μ ⟨F, S.fr⟩, fin ds vs zs μ k F S e r⟩
  | x :: xs, y :: ys, ds, vs, zs, μ, rx, F, S, e, r, k => by
    simp only [Rps] at rx
    refine ⟨hG μ ⟨F, S.fr⟩, ?_⟩
    have avA : ∀ q, Av (fun a => X a ∨ a = p) M (setE ρ t none) (setE (setE σ0 t none) i (some (.rol zs))) q → A0 q ∨ q = p := fun q z => by
      rcases z with (z | z) | z
      · exact .inl (hAX q z)
      · exact .inr z
      · exact .inl (hown zs q z)
    have r1 : Rp (Av (fun a => X a ∨ a = p) M (setE ρ t none) (setE (setE σ0 t none) i (some (.rol zs)))) μ x y := rx.1.step fun q o h1 h2 => by
      refine ⟨fun z => ?_, F q o h1 h2⟩
      rcases avA q z with z | z
      · exact h1 z
      · subst z; rw [hp] at h2; cases h2
    have S1 := S.setS ht r1
    show dMeth .list mPop (dVar i) (dCons te dNil) (setE (setE ρ t none) t (some x)) μ _ _
    have hs1 : look (setE (setE (setE σ0 t none) i (some (.rol zs))) t (some y)) i = some (.rol zs) := by
      rw [look_other hti]; exact look_self (by rw [set_len]; exact hi)
    have hr1 : look (setE (setE ρ t none) t (some x)) i = look (setE ρ t none) i := look_other hti
    refine pop1_core (P := fun d ws => vs.length < LINE ∧ popW i t ve QV σ0 ys ws (vs ++ [d])) (EV := fun _ => False) hm he S1 (by unfold own; rw [hs1]; exact k) (fun d z μ' ys' k' F' S' rz => ?_) fun _ _ _ k _ _ _ => k
    have np : look (setE (setE ρ t none) t (some x)) i ≠ some (.loc p) := fun w => (S1.ownB (a := p) ⟨i, zs, hm, hs1, w⟩).2 (.inr rfl)
    have e' : lstAt μ' p = some ds := lstAt_of (F' p _ hC np (lstAt_some e))
    -- the state without t's name
    have hρ : setE (setE (setE ρ t none) t (some x)) t none = setE ρ t none := by rw [setE_setE, setE_setE]
    have hσ : setE (setE (setE (setE (setE σ0 t none) i (some (.rol zs))) t (some y)) i (some (.rol ys'))) t none = setE (setE σ0 t none) i (some (.rol ys')) := by
      rw [setE_comm (Ne.symm hti), setE_setE, setE_comm (ρ := setE σ0 t none) (Ne.symm hti), setE_setE, setE_setE]
    have S2 := S'.goneB ht
    rw [hρ, hσ] at S2
    have ow : ∀ a, Own M (setE (setE ρ t none) t (some x)) (setE (setE (setE (setE σ0 t none) i (some (.rol zs))) t (some y)) i (some (.rol ys'))) a ↔ Own M (setE ρ t none) (setE (setE σ0 t none) i (some (.rol ys'))) a := fun a => by
      have h1 := own_keep (M := M) (ρ := setE (setE ρ t none) t (some x)) (σ := setE (setE (setE (setE σ0 t none) i (some (.rol zs))) t (some y)) i (some (.rol ys'))) (x := none) (y := none) ht (a := a)
      have h2 := own_setS (M := M) (ρ := setE (setE ρ t none) t (some x)) (σ := setE (setE (setE (setE σ0 t none) i (some (.rol zs))) t (some y)) i (some (.rol ys'))) (x := none) (y := none) ht (a := a)
      rw [hρ, hσ] at h1 h2
      exact ⟨h1, h2⟩
    have rz2 : Rp (Av (fun a => X a ∨ a = p) M (setE ρ t none) (setE (setE σ0 t none) i (some (.rol ys')))) μ' d z := rz.step fun q o h1 h2 => ⟨fun w => h1 (w.imp id (ow q).mpr), h2⟩
    have root : ∀ a, look (setE (setE ρ t none) t (some x)) i = some (.loc a) → A0 a := fun a w => hown zs a ⟨i, zs, hm, look_self (by rw [set_len]; exact hi), by rw [← hr1]; exact w⟩
    have rd : Rps (Av (fun a => X a ∨ a = p) M (setE ρ t none) (setE (setE σ0 t none) i (some (.rol ys')))) μ' ds vs := r.step fun q o h1 h2 => by
      have nr : look (setE (setE ρ t none) t (some x)) i ≠ some (.loc q) := fun w => h1 (.inr ⟨i, zs, hm, look_self (by rw [set_len]; exact hi), by rw [← hr1]; exact w⟩)
      refine ⟨fun w => h1 (w.imp id fun ⟨j, us, g1, g2, g3⟩ => ?_), F' q o (fun c => h1 (.inl (S.ux q c))) nr h2⟩
      by_cases n : i = j
      · subst n; exact ⟨i, zs, g1, look_self (by rw [set_len]; exact hi), g3⟩
      · rw [look_other n] at g2; exact ⟨j, us, g1, by rw [look_other n]; exact g2, g3⟩
    rw [e']
    refine ⟨by rw [rd.len]; exact k'.1, ?_⟩
    have S3 := S2.putX (o := .lst (ds ++ [d])) hX hC hB
    refine pop_turns hm ht hti he hA0 hAX hi hown hp hX hC hB hU hG fin xs ys (ds ++ [d]) (vs ++ [z]) ys' _ rx.2 (fun a o n e9 => ?_) S3 lstAt_put ((rd.app (.one rz2)).step fun q o h1 h2 => ⟨h1, ?_⟩) k'.2
    · have : a ≠ p := by intro z; rw [z, hp] at e9; cases e9
      rw [put_ne this]
      exact F' a o (fun c => n (hU a c)) (fun w => n (root a w)) (F a o n e9)
    · have : q ≠ p := fun z => h1 (.inl (.inr z))
      rw [put_ne this]; exact h2
  | [], _ :: _, _, _, _, _, r, _, _, _, _, _ => by simp [Rps] at r
  | _ :: _, [], _, _, _, _, r, _, _, _, _, _ => by simp [Rps] at r
/-- what a name of no value may hold is no matter -/
theorem St.any {t : Nat} (S : St X M U B (setE ρ t none) μ σ) (ht : look σ t = none) : St X M U B ρ μ σ := by
  have eq : ∀ j y, look σ j = some y → look (setE ρ t none) j = look ρ j := fun j y h => by
    have n : t ≠ j := by intro z; subst z; rw [ht] at h; cases h
    exact look_other n
  have ow : ∀ a, Own M ρ σ a → Own M (setE ρ t none) σ a := fun a ⟨j, ys, h1, h2, h3⟩ => ⟨j, ys, h1, h2, by rw [eq j _ h2]; exact h3⟩
  have st : ∀ q o, ¬ Av X M (setE ρ t none) σ q → μ q = some o → ¬ Av X M ρ σ q ∧ μ q = some o := fun q o h1 h2 => ⟨fun z => h1 (z.imp id (ow q)), h2⟩
  refine S.slots (by rw [← S.len, set_len]) S.fr S.ok S.xd (fun j z hz => ?_) (fun j k ys zs a h1 h2 h3 h4 h5 h6 => ?_) S.kp
  · rw [← eq j z hz]
    exact slot_step st (fun _ _ _ _ e _ _ => e) (S.sl j z hz)
  · exact S.dj j k ys zs a h1 h2 h3 h4 (by rw [eq j _ h3]; exact h5) (by rw [eq k _ h4]; exact h6)
/-- a place that was held beside is given free -/
theorem St.freeX {p : Nat} (S : St (fun a => X a ∨ a = p) M U B ρ μ σ) (hC : ∀ a, U.cell a → X a) (hL : ∀ a, U.lent a → X a) (hK : ∀ j d y, M j ≠ .k d y) : St X M U B ρ μ σ := by
  have st : ∀ q o, ¬ Av (fun a => X a ∨ a = p) M ρ σ q → μ q = some o → ¬ Av X M ρ σ q ∧ μ q = some o := fun q o h1 h2 => ⟨fun z => h1 (z.imp .inl id), h2⟩
  refine ⟨S.len, fun i y h => ?_, S.fr, S.ok, S.bu, hC, hL, fun a h => S.xd a (.inl h), S.dj, S.kp⟩
  have z := S.sl i y h
  cases hm : M i with
  | s => rw [hm] at z; obtain ⟨d, e, r⟩ := z; exact ⟨d, e, r.step st⟩
  | b =>
    rw [hm] at z
    obtain ⟨d, e, r⟩ := z
    refine ⟨d, e, ?_⟩
    rcases r with r | ⟨q, ds', zs, e1, e2, e3, e4, e5⟩
    · exact .inl (r.step st)
    · exact .inr ⟨q, ds', zs, e1, e2, e3, e4, e5.step st⟩
  | o =>
    rw [hm] at z
    have g : ∀ y, (∃ d, look ρ i = some d ∧ Rp (Av (fun a => X a ∨ a = p) M ρ σ) μ d y) → ∃ d, look ρ i = some d ∧ Rp (Av X M ρ σ) μ d y := fun y ⟨d, z1, z2⟩ => ⟨d, z1, z2.step st⟩
    cases y with
    | rol ys =>
      obtain ⟨q, ds, z1, z2, z3, z4, z5⟩ := z
      exact ⟨q, ds, z1, z2, z3.step st, fun w => z4 (.inl w), z5⟩
    | _ => exact g _ z
  | u K => rw [hm] at z; exact z
  | k d0 y0 => exact absurd hm (hK i d0 y0)
theorem ss_popT {j i t : Nat} {wi : DI} {vi : VI} {te : DE} {ve : VE} (hm : M i = .o) (ht : M t = .s) (hj : M j = .s) (hti : t ≠ i) (hK : ∀ j d y, M j ≠ .k d y) (hi : SimI M .s wi vi) (he : SimE M .b te ve) :
    SimS M rc (sAsg (dArgs aTuple (dCons (dLc wi (gName t) tYes (dMeth .list mPop (dVar i) (dCons te dNil)) [t]) dNil)) (gName j)) (tPopT j i t vi ve) := fun X U B K V R ρ μ σ S k => by
  obtain ⟨p0, ds0, zs, hs, hr, hp0, el, hn, k⟩ := own_at S hm k
  refine hi X U B ρ μ σ S _ _ _ _ k (fun xs ys G μ1 k F o r hG => ?_) fun e e' μ' k F o x => R.ex _ _ _ _ _ (S.step F o) x k
  have S1 := S.step F o
  intro p hp
  have hX : ¬ X p := fun z => S1.xd p z hp
  have hC : ¬ U.cell p := fun z => hX (S1.ux p z)
  have hB : B p = none := by
    cases hb : B p with
    | none => rfl
    | some o => rw [S1.fr p o hb] at hp; cases hp
  have hil : i < σ.length := look_lt hs
  have hsz : setE (setE σ t none) i (some (.rol zs)) = setE σ t none := by
    have : ∀ {σ : Ev} {i : Nat} {x : Option D}, look σ i = x → i < σ.length → setE σ i x = σ := fun {σ} => by
      induction σ with
      | nil => intro i x _ h; simp at h
      | cons a r ih =>
        intro i x h1 h2
        cases i with
        | zero => show x :: r = a :: r; rw [← h1]; rfl
        | succ i => show a :: setE r i x = a :: r; rw [ih h1 (by simpa using h2)]
    exact this (by rw [look_other hti]; exact hs) (by rw [set_len]; exact hil)
  have S2 := (S1.goneB ht).newX (o := .lst []) hp
  rw [← hsz] at S2
  have ow : ∀ ws a, Own M (setE ρ t none) (setE (setE σ t none) i (some (.rol ws))) a → Av X M ρ σ a := fun ws a ⟨l, us, g1, g2, g3⟩ => by
    have nt : t ≠ l := by intro z; subst z; rw [ht] at g1; cases g1
    rw [look_other nt] at g3
    by_cases n : i = l
    · subst n; exact .inr ⟨i, zs, g1, hs, g3⟩
    · rw [look_other n, look_other nt] at g2; exact .inr ⟨l, us, g1, g2, g3⟩
  refine pop_turns (A0 := Av X M ρ σ) (μ1 := μ1) hm ht hti he (fun a h => S1.avd h) (fun a h => .inl h) hil ow hp hX hC hB (fun a c => S.uav c) (fun μ h => hG μ h) (fun ds vs ws μ' k' F' S' e' r' => ?_) xs ys [] [] zs _ r (fun a o _ e => (sub_new hp) a o e) S2 lstAt_put (by simp [Rps]) k
  show opt (lstAt μ' p) _
  rw [e']
  have ht0 : look (setE σ t none) t = none := by
    by_cases h : t < σ.length
    · exact look_self h
    · cases z : look (setE σ t none) t with
      | none => rfl
      | some y => have := look_lt z; rw [set_len] at this; exact absurd this h
  have S3 := (S'.freeX S.ux S.lx hK).any (by rw [look_other (Ne.symm hti)]; exact ht0)
  refine R.nx _ _ _ (S3.setS hj (rp_tup.mpr ⟨_, rfl, r'.step fun q o h1 h2 => ⟨fun w => h1 ?_, h2⟩⟩)) k'
  rcases w with w | ⟨l, us, g1, g2, g3⟩
  · exact .inl (.inl w)
  · have nt : t ≠ l := by intro z; subst z; rw [ht] at g1; cases g1
    exact .inr ⟨l, us, g1, g2, by rw [look_other nt]; exact g3⟩
end
end PD
set_option linter.all false
/-! PDVPool: the laws' own helpers over values: draws, ==, greatest common parts, the law's beginning. -/
namespace PD
open PySem
def spendV : VPr := fun xs Q _ => match xs with
  | [.non, .int n] => n < 2 ^ 64 ∧ ∀ t, 0 ≤ t → (t < n ∨ n < 2 ∧ t = 0) → Q (.int t)
  | _ => False
def sameV : VPr := fun xs Q _ => match xs with
  | [x, y] => x = y ∧ (plain x = true ∧ depth x ≤ 64 ∧ size x ≤ 1000000) ∧ Q (.bl true)
  | _ => False
def commonV : VPr := fun xs Q _ => match xs with
  | [.tup ys] => ∃ ns : List Int, ys = ns.map D.int ∧ (∀ n ∈ ns, 0 ≤ n) ∧ Q (.int (gcdL ns 0 : Nat))
  | [.rol ys] => ∃ ns : List Int, ys = ns.map D.int ∧ (∀ n ∈ ns, 0 ≤ n) ∧ Q (.int (gcdL ns 0 : Nat))
  | _ => False
def puPo (p q : Nat) : Po where
  root := p
  cell := fun a => a = p ∨ a = q
  ok := Pu p q
  keep := fun μ μ' h k => by
    obtain ⟨ds, w, r, e1, e2, rest⟩ := h
    exact ⟨ds, w, r, lstAt_of (k p _ (.inl rfl) (lstAt_some e1)), lstAt_of (k q _ (.inr rfl) (lstAt_some e2)), rest⟩
  dom := fun μ a h c z => by
    rcases c with c | c
    · subst c; exact (h.ne z).1 rfl
    · subst c; exact (h.ne z).2 rfl
def puK (P : Po) : Prop := ∃ p q, P = puPo p q
theorem fs_spend {pr : Pr} (h : SpOk pr) : FSim [.u puK, .b] .f pr spendV := fun X U μ ds ys ok ux xd a QV EV Q E k q e => by
  obtain ⟨d, y, d', y', rfl, rfl, ⟨c1, c2, p, r, c3⟩, c'⟩ := arg2 a
  subst c2
  cases y' with
  | int n =>
    rw [b_int c', c1]
    have ro : U.root = p := congrArg Po.root c3
    have ok' : U.ok = Pu p r := congrArg Po.ok c3
    have ce : U.cell = fun a => a = p ∨ a = r := congrArg Po.cell c3
    rw [ro]
    rw [ok'] at ok
    refine h p r μ n _ _ k.1 ok fun t μ' h1 h2 P F => q _ _ μ' (k.2 t h1 h2) (fun a o n e => ?_) (by rw [ok']; exact P) f_int
    rw [ce] at n
    exact F a o (fun z => n (.inl z)) (fun z => n (.inr z)) e
  | _ => exact k.elim
theorem fs_same {pr : Pr} (h : ∀ (x : D) (μ : Sto) (Q : QE) (E : QX), plain x = true → depth x ≤ 64 → size x ≤ 1000000 → Q (.bl true) μ → pr [x, x] μ Q E) : FSim [.b, .b] .f pr sameV := fun X U μ ds ys ok ux xd a QV EV Q E k q e => by
  obtain ⟨d, y, d', y', rfl, rfl, c, c'⟩ := arg2 a
  obtain ⟨k1, k2, k3⟩ := k
  subst k1
  rw [b_plain k2.1 c, b_plain k2.1 c']
  exact h y μ _ _ k2.1 k2.2.1 k2.2.2 (q _ _ μ k3 (.refl _) ok f_bl)
theorem fs_common {pr : Pr} (h : ∀ (row : D) (μ : Sto) (ns : List Int) (Q : QE) (E : QX), seqOf row μ = some (ns.map D.int) → (∀ z, row ≠ .wtup z) → (∀ n ∈ ns, 0 ≤ n) → Q (.int (gcdL ns 0 : Nat)) μ → pr [row] μ Q E) : FSim [.b] .f pr commonV := fun X U μ ds ys ok ux xd a QV EV Q E k q e => by
  obtain ⟨d, y, rfl, rfl, c⟩ := arg1 a
  cases y with
  | tup zs =>
    obtain ⟨ns, rfl, k2, k3⟩ := k
    obtain ⟨xs, rfl, r⟩ := b_tup c
    rw [rps_ints r]
    exact h _ μ ns _ _ rfl (fun z e => by cases e) k2 (q _ _ μ k3 (.refl _) ok f_int)
  | rol zs =>
    obtain ⟨ns, rfl, k2, k3⟩ := k
    obtain ⟨p, xs, rfl, e, r⟩ := b_rol c
    rw [rps_ints r] at e
    exact h _ μ ns _ _ e (fun z e => by cases e) k2 (q _ _ μ k3 (.refl _) ok f_int)
  | _ => exact k.elim
/-- a law: its pool is made first -/
theorem law_sim {M : Nat → Md} {rc : Kl} {K : Po → Prop} {m : Nat} {pp : Pr} {rest : DS} {vrest : VS} {s : D} (hm : M 1 = .u K) (hk : ∀ i d y, M i ≠ .k d y) (hr : match rc with | .s => True | .f => True | _ => False)
    (hp : ∀ Q : QE, (∀ (P : Po) μ', K P → P.ok μ' → Q (.loc P.root) μ') → pp [s] (fun _ => none) Q (fun _ _ => False))
    (h : SimS M rc rest vrest) (k : vrest { nx := fun _ => False, rt := fun y => y = .bl true, bk := fun _ => False, ct := fun _ => False, ex := fun _ _ => False } (none :: some .non :: List.replicate m none)) :
    prBody 1 (m + 1) (sSeq (sAsg (dCall pp (dCons (dVar 0) dNil)) (gName 1)) rest) [s] (fun _ => none) (fun d _ => d = .bl true) (fun _ _ => False) := by
  refine ⟨fun d _ => d = .bl true, fun _ _ => False, rfl, ?_, fun _ μ1 z => ⟨μ1, Sub.refl _, z⟩, fun _ _ z => z.elim⟩
  show pp [s] (fun _ => none) _ _
  refine hp _ fun P μ' kp ok => ?_
  let U : Pl := { toPo := P, lent := fun _ => False }
  have noO : ∀ a, ¬ Own M (some s :: some (.loc P.root) :: List.replicate m none) (none :: some .non :: List.replicate m none) a := fun a ⟨i, zs, w1, w2, w3⟩ => by
    match i with
    | 0 => cases w2
    | 1 => cases w2
    | i + 2 =>
      have : look (List.replicate m none) i = some (.rol zs) := w2
      have e := look_init [] m i
      simp at e
      rw [e] at this; cases this
  have S : St U.cell M U (fun _ => none) (some s :: some (.loc P.root) :: List.replicate m none) μ' (none :: some .non :: List.replicate m none) := by
    refine ⟨by simp, fun i y h => ?_, fun a o e => (by cases e), ok, fun a c => rfl, fun a h => h, fun a h => h.elim, fun a c => P.dom _ _ ok c, fun i j zs _ a w1 _ w3 _ w5 _ => absurd ⟨i, zs, w1, w3, w5⟩ (noO a), fun i d y h => absurd h (hk i d y)⟩
    match i with
    | 0 => cases h
    | 1 =>
      cases h
      rw [hm]
      exact ⟨rfl, rfl, kp⟩
    | i + 2 =>
      have : look (List.replicate m none) i = some y := h
      have e := look_init [] m i
      simp at e
      rw [e] at this; cases this
  refine h U.cell U (fun _ => none) _ { nx := fun _ => False, rt := fun y => y = .bl true, bk := fun _ => False, ct := fun _ => False, ex := fun _ _ => False } ⟨fun _ _ _ _ k => k.elim, fun _ _ _ _ k => k, fun _ _ _ _ k => k, fun d y μ' s o c k => ?_, fun _ _ _ _ _ _ _ k => k⟩ _ _ _ S k
  subst k
  cases rc with
  | s => exact rp_bl.mp c
  | f => exact (rp_bl (A := U.cell) (μ := μ')).mp c
  | _ => exact hr.elim
theorem purse_po {pp : Pr} {ns : List Int} (h : ∀ (Q : QE) (E : QX), (∀ p q' μ', Pu p q' μ' → Q (.loc p) μ') → pp [.rol (ns.map D.int)] (fun _ => none) Q E) (Q : QE) (q : ∀ (P : Po) μ', puK P → P.ok μ' → Q (.loc P.root) μ') : pp [.rol (ns.map D.int)] (fun _ => none) Q (fun _ _ => False) :=
  h _ _ fun p q' μ' P => q (puPo p q') μ' ⟨p, q', rfl⟩ P
end PD
set_option linter.all false
set_option maxRecDepth 100000
/-! PDVWp: single steps through what a def asks on values, backwards; loops by invariants. -/
namespace PD
open PySem
theorem vb_mk {n m : Nat} {body : VS} {ds : List D} {Q : VQ} {E : VX} (hl : ds.length = n) (h : body ⟨fun _ => Q .non, Q, fun _ => False, fun _ => False, fun x _ => E x⟩ (ds.map some ++ List.replicate m none)) : vBody n m body ds Q E := ⟨hl, h⟩
section
variable {nx bk ct : Ev → Prop} {rt : D → Prop} {ex : Ex → Ev → Prop} {σ σ' : Ev} {t u : VS} {te tf : VE} {tt : VT} {g : VG}
theorem z_seq (h : t ⟨u ⟨nx, rt, bk, ct, ex⟩, rt, bk, ct, ex⟩ σ) : tSeq t u ⟨nx, rt, bk, ct, ex⟩ σ := h
theorem z_next (h : nx σ) : tNext ⟨nx, rt, bk, ct, ex⟩ σ := h
theorem z_break (h : bk σ) : tBreak ⟨nx, rt, bk, ct, ex⟩ σ := h
theorem z_cont (h : ct σ) : tCont ⟨nx, rt, bk, ct, ex⟩ σ := h
theorem z_drop (h : te σ (fun _ => nx σ) (fun x => ex x σ)) : tDrop te ⟨nx, rt, bk, ct, ex⟩ σ := h
theorem z_ret (h : te σ rt (fun x => ex x σ)) : tRet te ⟨nx, rt, bk, ct, ex⟩ σ := h
theorem z_retN (h : rt .non) : tRetN ⟨nx, rt, bk, ct, ex⟩ σ := h
theorem z_if (h : tt σ (fun b => if b = true then t ⟨nx, rt, bk, ct, ex⟩ σ else u ⟨nx, rt, bk, ct, ex⟩ σ) (fun x => ex x σ)) : tIf tt t u ⟨nx, rt, bk, ct, ex⟩ σ := h
theorem z_asg (h : te σ (fun d => g d σ nx) (fun x => ex x σ)) : tAsg te g ⟨nx, rt, bk, ct, ex⟩ σ := h
theorem z_par {i j : Nat} (h : te σ (fun x => tf σ (fun y => hName i x σ fun σ1 => hName j y σ1 nx) (fun e => ex e σ)) (fun e => ex e σ)) : tPar i j te tf ⟨nx, rt, bk, ct, ex⟩ σ := h
theorem z_walk {wi : VI} (h : wi σ (fun xs => forV g t ⟨nx, rt, bk, ct, ex⟩ xs σ) (fun e => ex e σ)) : tFor wi g t ⟨nx, rt, bk, ct, ex⟩ σ := h
theorem z_walkO {i : Nat} {xs : List D} (e : look σ i = some (.rol xs)) (h : forV g t ⟨nx, rt, bk, ct, ex⟩ xs σ) : tForO i false g t ⟨nx, rt, bk, ct, ex⟩ σ := by
  show opt (look σ i) _; rw [e]; exact h
theorem z_walkOE {i : Nat} {xs : List D} (e : look σ i = some (.rol xs)) (h : forV g t ⟨nx, rt, bk, ct, ex⟩ (enumL xs 0) σ) : tForO i true g t ⟨nx, rt, bk, ct, ex⟩ σ := by
  show opt (look σ i) _; rw [e]; exact h
theorem z_fcons {x : D} {xs : List D} (h : g x σ (fun σ1 => t ⟨forV g t ⟨nx, rt, bk, ct, ex⟩ xs, rt, nx, forV g t ⟨nx, rt, bk, ct, ex⟩ xs, ex⟩ σ1)) : forV g t ⟨nx, rt, bk, ct, ex⟩ (x :: xs) σ := h
theorem z_fnil (h : nx σ) : forV g t ⟨nx, rt, bk, ct, ex⟩ [] σ := h
/-- a for by its invariant: I of what is left -/
theorem z_for {xs : List D} (I : List D → Ev → Prop) (h0 : I xs σ) (hs : ∀ x r σ (N : Ev → Prop), I (x :: r) σ → (∀ σ', I r σ' → N σ') → g x σ (fun σ1 => t ⟨N, rt, nx, N, ex⟩ σ1)) (h1 : ∀ σ, I [] σ → nx σ) :
    forV g t ⟨nx, rt, bk, ct, ex⟩ xs σ := by
  induction xs generalizing σ with
  | nil => exact h1 σ h0
  | cons x r ih => exact hs x r σ _ h0 fun σ' h => ih h
/-- a for over ints -/
theorem z_forI {ns : List Int} (I : List Int → Ev → Prop) (h0 : I ns σ) (hs : ∀ n r σ (N : Ev → Prop), I (n :: r) σ → (∀ σ', I r σ' → N σ') → g (.int n) σ (fun σ1 => t ⟨N, rt, nx, N, ex⟩ σ1)) (h1 : ∀ σ, I [] σ → nx σ) :
    forV g t ⟨nx, rt, bk, ct, ex⟩ (ns.map D.int) σ := by
  induction ns generalizing σ with
  | nil => exact h1 σ h0
  | cons x r ih => exact hs x r σ _ h0 fun σ' h => ih h
/-- a for over range: I at each number -/
theorem z_forR {lo : Int} {n : Nat} (I : Nat → Ev → Prop) (h0 : I 0 σ) (hs : ∀ k σ (N : Ev → Prop), k < n → I k σ → (∀ σ', I (k + 1) σ' → N σ') → g (.int (lo + (k : Nat))) σ (fun σ1 => t ⟨N, rt, nx, N, ex⟩ σ1)) (h1 : ∀ σ, I n σ → nx σ) :
    forV g t ⟨nx, rt, bk, ct, ex⟩ (rangeL lo n) σ := by
  have z : ∀ (m k : Nat) (σ : Ev), k + m = n → I k σ → forV g t ⟨nx, rt, bk, ct, ex⟩ (rangeL (lo + k) m) σ := by
    intro m
    induction m with
    | zero => intro k σ e h; have : k = n := by omega
              subst this; exact h1 σ h
    | succ m ih =>
      intro k σ e h
      rw [rangeL_succ]
      refine hs k σ _ (by omega) h fun σ' h' => ?_
      have := ih (k + 1) σ' (by omega) h'
      have e2 : lo + ((k + 1 : Nat) : Int) = lo + (k : Int) + 1 := by push_cast; omega
      rw [e2] at this
      exact this
  have := z n 0 σ (by omega) h0
  simpa using this
/-- a for over enumerate of ints -/
theorem z_forE {ns : List D} (I : Nat → Ev → Prop) (h0 : I 0 σ) (hs : ∀ k x σ (N : Ev → Prop), ns[k]? = some x → I k σ → (∀ σ', I (k + 1) σ' → N σ') → g (.wtup [.int (k : Nat), x]) σ (fun σ1 => t ⟨N, rt, nx, N, ex⟩ σ1)) (h1 : ∀ σ, I ns.length σ → nx σ) :
    forV g t ⟨nx, rt, bk, ct, ex⟩ (enumL ns 0) σ := by
  have z : ∀ (r : List D) (k : Nat) (σ : Ev), ns.drop k = r → k + r.length = ns.length → I k σ → forV g t ⟨nx, rt, bk, ct, ex⟩ (enumL r k) σ := by
    intro r
    induction r with
    | nil => intro k σ e h1' h; have : k = ns.length := by simpa using h1'
             subst this; exact h1 σ h
    | cons x r ih =>
      intro k σ e h1' h
      have hx : ns[k]? = some x := by rw [← List.head?_drop, e]; rfl
      refine hs k x σ _ hx h fun σ' h' => ?_
      exact ih (k + 1) σ' (by rw [← List.drop_drop, e]; rfl) (by rw [List.length_cons] at h1'; omega) h'
  exact z ns 0 σ rfl (by simp) h0
theorem z_wsucc {n : Nat} (h : tt σ (fun b => if b = true then t ⟨whileV tt t ⟨nx, rt, bk, ct, ex⟩ n, rt, nx, whileV tt t ⟨nx, rt, bk, ct, ex⟩ n, ex⟩ σ else nx σ) (fun e => ex e σ)) :
    whileV tt t ⟨nx, rt, bk, ct, ex⟩ (n + 1) σ := h
/-- a while by its invariant and a measure -/
theorem z_while (I : Nat → Ev → Prop) (n : Nat) (h0 : I n σ) (hs : ∀ n σ (N : Ev → Prop), I n σ → (∀ m σ', m < n → I m σ' → N σ') → tt σ (fun b => if b = true then t ⟨N, rt, nx, N, ex⟩ σ else nx σ) (fun e => ex e σ)) :
    tWhile tt t ⟨nx, rt, bk, ct, ex⟩ σ := by
  refine ⟨n + 1, ?_⟩
  have z : ∀ f n σ, n < f → I n σ → whileV tt t ⟨nx, rt, bk, ct, ex⟩ f σ := by
    intro f
    induction f with
    | zero => intro n σ h; omega
    | succ f ih => intro n σ h k; exact hs n σ _ k fun m σ' h1 h2 => ih m σ' (by omega) h2
  exact z (n + 1) n σ (Nat.lt_succ_self n) h0
theorem z_raise {cn : Str} {fs : List Str} {a : VA} (h : a σ (fun ds => ds.length = fs.length ∧ ex ⟨cn, (fs.zip ds).reverse⟩ σ) (fun x => ex x σ)) : tRaise cn fs a ⟨nx, rt, bk, ct, ex⟩ σ := h
theorem z_try {isa : Str → Str → Option Bool} {hs : List VCl} (h : t ⟨nx, rt, bk, ct, fun x σ1 => catchV isa ⟨nx, rt, bk, ct, ex⟩ x hs σ1⟩ σ) : tTry isa t hs ⟨nx, rt, bk, ct, ex⟩ σ := h
theorem z_catch {isa : Str → Str → Option Bool} {n : Str} {i : Option Nat} {sd : Nat → Nat → VS} {r : List VCl} {x : Ex} (e : isa x.cls n = some true)
    (h : ∀ a d, sd a d ⟨fun σ1 => nx (goneE i σ1), rt, fun σ1 => bk (goneE i σ1), fun σ1 => ct (goneE i σ1), fun _ _ => False⟩ (boundE i (exD x a d) σ)) : catchV isa ⟨nx, rt, bk, ct, ex⟩ x ((n, i, sd) :: r) σ := by
  unfold catchV; rw [e]; exact h
theorem z_skip {isa : Str → Str → Option Bool} {n : Str} {i : Option Nat} {sd : Nat → Nat → VS} {r : List VCl} {K : VK} {x : Ex} (e : isa x.cls n = some false) (h : catchV isa K x r σ) : catchV isa K x ((n, i, sd) :: r) σ := by
  unfold catchV; rw [e]; exact h
/-! changes of own lists -/
theorem z_app {i : Nat} {xs : List D} (e : look σ i = some (.rol xs)) (h : te σ (fun y => xs.length < LINE ∧ hName i (.rol (xs ++ [y])) σ nx) (fun x => ex x σ)) : tApp i te ⟨nx, rt, bk, ct, ex⟩ σ := by
  show opt (look σ i) _; rw [e]; exact h
theorem z_set {i : Nat} {ti : VE} {xs : List D} (e : look σ i = some (.rol xs)) (h : te σ (fun y => ti σ (fun k => asI k fun k => opt (ixN xs.length k) fun j => hName i (.rol (xs.set j y)) σ nx) (fun x => ex x σ)) (fun x => ex x σ)) : tSet i ti te ⟨nx, rt, bk, ct, ex⟩ σ := by
  show opt (look σ i) _; rw [e]; exact h
theorem z_pop {i : Nat} {xs : List D} {y : D} (e : look σ i = some (.rol (xs ++ [y]))) (h : hName i (.rol xs) σ fun σ1 => g y σ1 nx) : tPop i g ⟨nx, rt, bk, ct, ex⟩ σ := by
  show opt (look σ i) _; rw [e]
  show opt ((xs ++ [y])[(xs ++ [y]).length - 1]?) _
  have e1 : (xs ++ [y])[(xs ++ [y]).length - 1]? = some y := by simp
  have e2 : (xs ++ [y]).dropLast = xs := by simp
  rw [e1, e2]; exact h
theorem z_pop1 {i : Nat} {xs : List D} (e : look σ i = some (.rol xs)) (h : te σ (fun k => asI k fun k => (-(2 ^ 63) ≤ k ∧ k < 2 ^ 63) ∧ opt (ixN xs.length k) fun j => opt (xs[j]?) fun y => hName i (.rol (xs.eraseIdx j)) σ fun σ1 => g y σ1 nx) (fun x => ex x σ)) : tPop1 i te g ⟨nx, rt, bk, ct, ex⟩ σ := by
  show opt (look σ i) _; rw [e]; exact h
theorem z_mv {i j : Nat} {x : D} (e : look σ i = some x) (h : nx (setE (setE σ i none) j (some x))) : tMv i j ⟨nx, rt, bk, ct, ex⟩ σ := by
  show opt (look σ i) _; rw [e]; exact h
end
/-! ### targets -/
section
variable {σ σ' : Ev} {Q : Ev → Prop}
theorem z_gName {i : Nat} {d : D} (e : setE σ i (some d) = σ') (h : Q σ') : hName i d σ Q := by subst e; exact h
theorem z_gTup {is : List Nat} {ds : List D} (h : namesV is ds σ Q) : hTup is (.tup ds) σ Q := h
theorem z_gWtup {is : List Nat} {ds : List D} (h : namesV is ds σ Q) : hTup is (.wtup ds) σ Q := h
theorem z_gnn (h : Q σ) : namesV [] [] σ Q := h
theorem z_gnc {i : Nat} {is : List Nat} {d : D} {ds : List D} (e : setE σ i (some d) = σ') (h : namesV is ds σ' Q) : namesV (i :: is) (d :: ds) σ Q := by subst e; exact h
theorem z_gDrop {d : D} (h : Q σ) : hDrop d σ Q := h
end
/-! ### expressions -/
section
variable {σ : Ev} {Q : VQ} {E : VX} {QB : Bool → Prop} {QA : List D → Prop}
theorem z_var {i : Nat} {d : D} (e : look σ i = some d) (h : Q d) : vVar i σ Q E := by unfold vVar; rw [e]; exact h
theorem z_c {d : D} (h : Q d) : vC d σ Q E := h
theorem z_d1 {g : W1} {ta : VE} (h : ta σ (fun x => g x Q) E) : v1 g ta σ Q E := h
theorem z_d2 {g : W2} {ta tb : VE} (h : ta σ (fun x => tb σ (fun y => g x y Q) E) E) : v2 g ta tb σ Q E := h
theorem z_nil (h : QA []) : vNil σ QA E := h
theorem z_cons {ta : VE} {tr : VA} (h : ta σ (fun x => tr σ (fun xs => QA (x :: xs)) E) E) : vCons ta tr σ QA E := h
theorem z_args {g : WA} {t : VA} (h : t σ (fun xs => g xs Q) E) : vArgs g t σ Q E := h
theorem z_call {pr : VPr} {t : VA} (h : t σ (fun ds => pr ds Q E) E) : vCall pr t σ Q E := h
theorem z_asB {b : Bool} (h : QB b) : asV QB (.bl b) := h
theorem z_test {t : VE} (h : t σ (asV QB) E) : vTest t σ QB E := h
theorem z_andT {t u : VT} (h : t σ (fun c => if c = true then u σ QB E else QB false) E) : vAndT t u σ QB E := h
theorem z_orT {t u : VT} (h : t σ (fun c => if c = true then QB true else u σ QB E) E) : vOrT t u σ QB E := h
theorem z_notT {t : VT} (h : t σ (fun c => QB (!c)) E) : vNotT t σ QB E := h
theorem z_andV {ta tb : VE} (h : ta σ (asV fun c => if c = true then tb σ Q E else Q (.bl false)) E) : vAndV ta tb σ Q E := h
theorem z_orV {ta tb : VE} (h : ta σ (asV fun c => if c = true then Q (.bl true) else tb σ Q E) E) : vOrV ta tb σ Q E := h
theorem z_notV {ta : VE} (h : ta σ (asV fun c => Q (.bl (!c))) E) : vNotV ta σ Q E := h
theorem z_ifE {c : VT} {ta tb : VE} (h : c σ (fun b => if b = true then ta σ Q E else tb σ Q E) E) : vIf c ta tb σ Q E := h
theorem z_chain {g k : W2} {ta tb tc : VE} (h : ta σ (fun x => tb σ (fun y => g x y (asV fun c => if c = true then tc σ (fun z => k y z Q) E else Q (.bl false))) E) E) : vChain g k ta tb tc σ Q E := h
theorem z_tup {t : VA} (h : t σ (fun xs => xs.length ≤ LINE ∧ Q (.tup xs)) E) : vTup t σ Q E := h
theorem z_lst {t : VA} (h : t σ (fun xs => xs.length ≤ LINE ∧ Q (.rol xs)) E) : vLst t σ Q E := h
theorem z_yes (h : QB true) : vYes σ QB E := h
def isiV (T : Ty) (Q : VQ) (x : D) : Prop := match x with
  | .exv .. => False
  | x => Q (.bl (isTy T x))
theorem z_isi {T : Ty} {t : VE} (h : t σ (isiV T Q) E) : vIsi T t σ Q E := by
  have e : vIsi T t σ Q E = t σ (isiV T Q) E := by
    refine congrArg (fun z => t σ z E) ?_
    funext x
    cases x <;> rfl
  rw [e]; exact h
theorem z_isiN {T : Ty} (h : Q (.bl false)) : isiV T Q .non := by cases T <;> exact h
theorem z_isiB {T : Ty} {b : Bool} (h : Q (.bl (isTy T (.bl b)))) : isiV T Q (.bl b) := h
theorem z_isiI {T : Ty} {i : Int} (h : Q (.bl (isTy T (.int i)))) : isiV T Q (.int i) := h
theorem z_isiS {T : Ty} {s : Str} (h : Q (.bl (isTy T (.str s)))) : isiV T Q (.str s) := h
theorem z_isiT {T : Ty} {xs : List D} (h : Q (.bl (isTy T (.tup xs)))) : isiV T Q (.tup xs) := h
theorem z_isiL {T : Ty} {xs : List D} (h : Q (.bl (isTy T (.rol xs)))) : isiV T Q (.rol xs) := h
def mLTR (g : D → WA) (t : VA) (σ : Ev) (Q : VQ) (E : VX) (x : D) : Prop := isLTV x ∧ t σ (fun xs => g x xs Q) E
theorem z_methLT {g : D → WA} {to : VE} {t : VA} (h : to σ (mLTR g t σ Q E) E) : vMethLT g to t σ Q E := h
theorem z_methLTt {g : D → WA} {t : VA} {xs : List D} (h : t σ (fun ys => g (.tup xs) ys Q) E) : mLTR g t σ Q E (.tup xs) := ⟨trivial, h⟩
theorem z_methLTl {g : D → WA} {t : VA} {xs : List D} (h : t σ (fun ys => g (.rol xs) ys Q) E) : mLTR g t σ Q E (.rol xs) := ⟨trivial, h⟩
theorem z_dFld {a d : Nat} {f : Str} {te : VE} (h : te σ (fldV a d f Q) E) : vFld a d f te σ Q E := h
theorem z_fld {a d : Nat} {f : Str} {x : Ex} {y : D} (e : ((x.fs.map (·.1)).zip (x.fs.map (·.2))).lookup f = some y) (h : Q y) : fldV a d f Q (exD x a d) := by
  refine ⟨⟨rfl, rfl⟩, ?_⟩
  rw [e]; exact h
/-! operators -/
variable {i j : Int}
theorem z_add (h : Q (.int (i + j))) : oAdd (.int i) (.int j) Q := h
theorem z_addT {a b : List D} (e : a.length + b.length ≤ LINE) (h : Q (.tup (a ++ b))) : oAdd (.tup a) (.tup b) Q := ⟨e, h⟩
theorem z_addL {a b : List D} (e : a.length + b.length ≤ LINE) (h : Q (.rol (a ++ b))) : oAdd (.rol a) (.rol b) Q := ⟨e, h⟩
theorem z_sub (h : Q (.int (i - j))) : oSub (.int i) (.int j) Q := h
theorem z_mul (e : MulOk i j) (h : Q (.int (i * j))) : oMul (.int i) (.int j) Q := ⟨e, h⟩
theorem z_mulL {xs : List D} {k : Int} (e : -(2 ^ 63) ≤ k ∧ k < 2 ^ 63 ∧ xs.length * k.toNat ≤ LINE) (h : Q (.rol (repL xs k))) : oMul (.rol xs) (.int k) Q := ⟨e, h⟩
theorem z_div (e : DivOk j) (h : Q (.int (i / j))) : oDiv (.int i) (.int j) Q := ⟨e, h⟩
theorem z_mod (e : 0 < j) (h : Q (.int (i % j))) : oMod (.int i) (.int j) Q := ⟨e, h⟩
theorem z_pow (e : PowOk i j) (h : Q (.int (i ^ j.toNat))) : oPow (.int i) (.int j) Q := ⟨e, h⟩
theorem z_shl (e : PowOk i j) (h : Q (.int (i * 2 ^ j.toNat))) : oShl (.int i) (.int j) Q := ⟨e, h⟩
theorem z_neg (h : Q (.int (-i))) : oNeg (.int i) Q := h
theorem abs64 {i : Int} (h : -(2 ^ 64) < i ∧ i < 2 ^ 64) : i.natAbs.log2 ≤ 64 := log2_le (by omega)
theorem z_mul64 (e : (-(2 ^ 64) < i ∧ i < 2 ^ 64) ∧ -(2 ^ 64) < j ∧ j < 2 ^ 64) (h : Q (.int (i * j))) : oMul (.int i) (.int j) Q := ⟨by
  have a := abs64 e.1
  have b := abs64 e.2
  unfold MulOk; omega, h⟩
theorem z_div64 (e : 0 < j ∧ j < 2 ^ 64) (h : Q (.int (i / j))) : oDiv (.int i) (.int j) Q := ⟨div_ok 64 e.1 e.2 (by decide), h⟩
theorem z_lt (h : Q (.bl (decide (i < j)))) : oLt (.int i) (.int j) Q := h
theorem z_le (h : Q (.bl (decide (i ≤ j)))) : oLe (.int i) (.int j) Q := h
theorem z_gt (h : Q (.bl (decide (j < i)))) : oGt (.int i) (.int j) Q := h
theorem z_ge (h : Q (.bl (decide (j ≤ i)))) : oGe (.int i) (.int j) Q := h
theorem z_eq (h : Q (.bl (decide (i = j)))) : oEq (.int i) (.int j) Q := by
  refine ⟨eqok_int i, eqok_int j, ?_⟩
  rw [eqd_int]; exact h
theorem z_ne (h : Q (.bl (decide (i ≠ j)))) : oNe (.int i) (.int j) Q := by
  refine ⟨eqok_int i, eqok_int j, ?_⟩
  rw [eqd_int]
  have e : (!decide (i = j)) = decide (i ≠ j) := by by_cases h : i = j <;> simp [h]
  show Q (.bl (!decide (i = j)))
  rw [e]; exact h
theorem z_eqB {a b : Bool} (h : Q (.bl (a == b))) : oEq (.bl a) (.bl b) Q := by
  refine ⟨eqok_bl a, eqok_bl b, ?_⟩
  simp only [eqD]; exact h
theorem z_neB {a b : Bool} (h : Q (.bl (!(a == b)))) : oNe (.bl a) (.bl b) Q := by
  refine ⟨eqok_bl a, eqok_bl b, ?_⟩
  simp only [eqD]; exact h
theorem z_is {x : D} (h : Q (.bl (isNon x))) : oIs x .non Q := h
theorem z_isNot {x : D} (h : Q (.bl (!isNon x))) : oIsNot x .non Q := h
theorem z_ixT {xs : List D} {d : D} (e : atI xs i = some d) (h : Q d) : oIx (.tup xs) (.int i) Q := by show opt (atI xs i) _; rw [e]; exact h
theorem z_ixL {xs : List D} {d : D} (e : atI xs i = some d) (h : Q d) : oIx (.rol xs) (.int i) Q := by show opt (atI xs i) _; rw [e]; exact h
theorem z_lenT {xs : List D} (h : Q (.int xs.length)) : bLen [.tup xs] Q := h
theorem z_lenL {xs : List D} (h : Q (.int xs.length)) : bLen [.rol xs] Q := h
theorem z_int (h : Q (.int i)) : bInt [.int i] Q := h
theorem z_abs (h : Q (.int (if i < 0 then -i else i))) : bAbs [.int i] Q := h
theorem z_sumT {ns : List Int} (h : Q (.int ns.sum)) : bSum [.tup (ns.map D.int)] Q := by
  show opt (intsOf (ns.map D.int)) _; rw [intsOf_map]; exact h
theorem z_sumL {ns : List Int} (h : Q (.int ns.sum)) : bSum [.rol (ns.map D.int)] Q := by
  show opt (intsOf (ns.map D.int)) _; rw [intsOf_map]; exact h
theorem z_minL {ns : List Int} (e2 : 0 < ns.length) (h : ∀ m, m ∈ ns → (∀ y, y ∈ ns → m ≤ y) → Q (.int m)) : bMin [.rol (ns.map D.int)] Q := by
  show opt (intsOf (ns.map D.int)) _; rw [intsOf_map]; exact ⟨e2, h⟩
theorem z_minT {ns : List Int} (e2 : 0 < ns.length) (h : ∀ m, m ∈ ns → (∀ y, y ∈ ns → m ≤ y) → Q (.int m)) : bMin [.tup (ns.map D.int)] Q := by
  show opt (intsOf (ns.map D.int)) _; rw [intsOf_map]; exact ⟨e2, h⟩
theorem z_maxL {ns : List Int} (e2 : 0 < ns.length) (h : ∀ m, m ∈ ns → (∀ y, y ∈ ns → y ≤ m) → Q (.int m)) : bMax [.rol (ns.map D.int)] Q := by
  show opt (intsOf (ns.map D.int)) _; rw [intsOf_map]; exact ⟨e2, h⟩
theorem z_maxT {ns : List Int} (e2 : 0 < ns.length) (h : ∀ m, m ∈ ns → (∀ y, y ∈ ns → y ≤ m) → Q (.int m)) : bMax [.tup (ns.map D.int)] Q := by
  show opt (intsOf (ns.map D.int)) _; rw [intsOf_map]; exact ⟨e2, h⟩
theorem z_max2 (h : Q (.int (if j > i then j else i))) : bMax [.int i, .int j] Q := h
theorem z_min2 (h : Q (.int (if j < i then j else i))) : bMin [.int i, .int j] Q := h
theorem z_gcd {a b : Nat} (h : Q (.int ((Nat.gcd a b : Nat) : Int))) : bGcd [.int a, .int b] Q := h
theorem z_tupT {xs : List D} (h : Q (.tup xs)) : bTuple [.tup xs] Q := h
theorem z_tupL {xs : List D} (h : Q (.tup xs)) : bTuple [.rol xs] Q := h
theorem z_listT {xs : List D} (h : Q (.rol xs)) : bList [.tup xs] Q := h
theorem z_listL {xs : List D} (h : Q (.rol xs)) : bList [.rol xs] Q := h
theorem z_sortL {ns : List Int} (h : ∀ (ns' : List Int), ns'.Perm ns → ns'.Pairwise (· ≤ ·) → Q (.rol (ns'.map D.int))) : bSorted [.rol (ns.map D.int)] Q := by
  show opt (intsOf (ns.map D.int)) _; rw [intsOf_map]; exact h
theorem z_sortSet {ns : List Int} (e : ns.length < 64) (h : ∀ (ns' : List Int), ns'.Pairwise (· < ·) → (∀ k, k ∈ ns' ↔ k ∈ ns) → Q (.rol (ns'.map D.int))) : oSortSet (.tup (ns.map D.int)) Q := by
  show opt (intsOf (ns.map D.int)) _; rw [intsOf_map]; exact ⟨e, h⟩
theorem z_lenSet {ns : List Int} (e : ns.length ≤ 4000) (h : ∀ ns' : List Int, ns'.Nodup → (∀ k, k ∈ ns' ↔ k ∈ ns) → Q (.int ns'.length)) : oLenSet (.tup (ns.map D.int)) Q := by
  show opt (intsOf (ns.map D.int)) _; rw [intsOf_map]; exact ⟨e, h⟩
theorem z_countT {ns : List Int} {k : Int} (h : Q (.int (ns.count k : Nat))) : nCount (.tup (ns.map D.int)) [.int k] Q := by
  show opt (intsOf (ns.map D.int)) _; rw [intsOf_map]; exact h
theorem z_countL {ns : List Int} {k : Int} (h : Q (.int (ns.count k : Nat))) : nCount (.rol (ns.map D.int)) [.int k] Q := by
  show opt (intsOf (ns.map D.int)) _; rw [intsOf_map]; exact h
theorem z_bits (h : Q (.int (bitsOf i))) : oBits (.int i) Q := h
theorem z_revL {xs : List D} (h : Q (.rol xs.reverse)) : oRev (.rol xs) Q := h
/-! helpers of the laws -/
theorem z_spend {n : Int} (hn : n < 2 ^ 64) (h : ∀ t, 0 ≤ t → (t < n ∨ n < 2 ∧ t = 0) → Q (.int t)) : spendV [.non, .int n] Q E := ⟨hn, h⟩
theorem z_same {x : D} (hp : plain x = true) (hd : depth x ≤ 64) (hz : size x ≤ 1000000) (q : Q (.bl true)) : sameV [x, x] Q E := ⟨rfl, ⟨hp, hd, hz⟩, q⟩
theorem z_commonT {ns : List Int} (h0 : ∀ n ∈ ns, 0 ≤ n) (q : Q (.int (gcdL ns 0 : Nat))) : commonV [.tup (ns.map D.int)] Q E := ⟨ns, rfl, h0, q⟩
theorem z_commonL {ns : List Int} (h0 : ∀ n ∈ ns, 0 ≤ n) (q : Q (.int (gcdL ns 0 : Nat))) : commonV [.rol (ns.map D.int)] Q E := ⟨ns, rfl, h0, q⟩
end
/-! ### walks, cuts -/
section
variable {σ σ0 : Ev} {E : VX} {R : List D → Prop} {Q : VQ}
def seqRV (R : List D → Prop) (x : D) : Prop := match x with
  | .tup xs => R xs
  | .rol xs => R xs
  | _ => False
theorem z_wSeq {t : VE} (h : t σ (seqRV R) E) : kSeq t σ R E := by
  have e : kSeq t σ R E = t σ (seqRV R) E := by
    refine congrArg (fun z => t σ z E) ?_
    funext x
    cases x <;> rfl
  rw [e]; exact h
theorem z_wT {xs : List D} (h : R xs) : seqRV R (.tup xs) := h
theorem z_wL {xs : List D} (h : R xs) : seqRV R (.rol xs) := h
def rngR (R : List D → Prop) (x : D) : Prop := match x with
  | .int j => (-(2 ^ 62) ≤ j ∧ j < 2 ^ 62) ∧ R (rangeL 0 j.toNat)
  | _ => False
theorem z_wRng1 {t : VE} (h : t σ (rngR R) E) : kRng1 t σ R E := by
  have e : kRng1 t σ R E = t σ (rngR R) E := by
    refine congrArg (fun z => t σ z E) ?_
    funext x
    cases x <;> rfl
  rw [e]; exact h
theorem z_rng {j : Int} (e : -(2 ^ 62) ≤ j ∧ j < 2 ^ 62) (h : R (rangeL 0 j.toNat)) : rngR R (.int j) := ⟨e, h⟩
def rngR2 (R : List D → Prop) (x y : D) : Prop := match x, y with
  | .int i, .int j => (-(2 ^ 62) ≤ i ∧ i < 2 ^ 62 ∧ -(2 ^ 62) ≤ j ∧ j < 2 ^ 62) ∧ R (rangeL i (j - i).toNat)
  | _, _ => False
theorem z_wRng2 {t u : VE} (h : t σ (fun x => u σ (fun y => rngR2 R x y) E) E) : kRng2 t u σ R E := by
  have e : kRng2 t u σ R E = t σ (fun x => u σ (fun y => rngR2 R x y) E) E := by
    refine congrArg (fun z => t σ z E) ?_
    funext x
    refine congrArg (fun z => u σ z E) ?_
    funext y
    cases x <;> cases y <;> rfl
  rw [e]; exact h
theorem z_rng2 {i j : Int} (e : -(2 ^ 62) ≤ i ∧ i < 2 ^ 62 ∧ -(2 ^ 62) ≤ j ∧ j < 2 ^ 62) (h : R (rangeL i (j - i).toNat)) : rngR2 R (.int i) (.int j) := ⟨e, h⟩
theorem z_wEnum {t : VE} (h : t σ (seqRV fun xs => R (enumL xs 0)) E) : kEnum t σ R E := z_wSeq h
theorem z_lc {wi : VI} {g : VG} {tt : VT} {te : VE} {vs : List Nat} (e : wipeE σ vs = σ0) (h : wi σ (fun xs => lcV g tt te σ0 Q xs []) E) : vLc wi g tt te vs σ Q E := by
  subst e; exact h
/-- a comprehension that keeps some and turns each -/
theorem z_lcF {g : VG} {tt : VT} {te : VE} {xs : List D} (c : D → Bool) (f : D → D) (hl : xs.length ≤ LINE)
    (hs : ∀ x, x ∈ xs → ∀ (R : VQ) (N : Prop), (c x = true → R (f x)) → (c x = false → N) → g x σ (fun σ1 => tt σ1 (fun b => if b = true then te σ1 R (fun _ => False) else N) (fun _ => False)))
    (q : Q (.rol ((xs.filter c).map f))) : lcV g tt te σ Q xs [] := by
  have z : ∀ (ys acc : List D), (∀ y ∈ ys, y ∈ xs) → acc.length + ys.length ≤ LINE → Q (.rol (acc ++ (ys.filter c).map f)) → lcV g tt te σ Q ys acc := by
    intro ys
    induction ys with
    | nil => intro acc _ _ h; rw [List.filter_nil, List.map_nil, List.append_nil] at h; exact h
    | cons y ys ih =>
      intro acc hm hl h
      rw [List.length_cons] at hl
      refine hs y (hm y (List.mem_cons_self ..)) _ _ (fun hc => ?_) (fun hc => ?_)
      · refine ⟨by omega, ih _ (fun z hz => hm z (List.mem_cons_of_mem _ hz)) (by rw [List.length_append, List.length_singleton]; omega) ?_⟩
        rw [List.filter_cons_of_pos hc, List.map_cons] at h
        rw [List.append_assoc]; exact h
      · refine ih acc (fun z hz => hm z (List.mem_cons_of_mem _ hz)) (by omega) ?_
        rw [List.filter_cons_of_neg (by rw [hc]; decide)] at h
        exact h
  exact z xs [] (fun _ h => h) (by simpa using hl) (by simpa using q)
/-- a comprehension that turns each -/
theorem z_lcM {g : VG} {te : VE} {xs : List D} (f : D → D) (hl : xs.length ≤ LINE) (hs : ∀ x, x ∈ xs → ∀ (R : VQ), R (f x) → g x σ (fun σ1 => te σ1 R (fun _ => False))) (q : Q (.rol (xs.map f))) : lcV g vYes te σ Q xs [] := by
  refine z_lcF (fun _ => true) f hl (fun x hx R N h1 _ => ?_) ?_
  · exact hs x hx R (h1 rfl)
  · rw [List.filter_eq_self.mpr fun _ _ => rfl]; exact q
/-- of ints -/
theorem z_lcI {g : VG} {te : VE} {ns : List Int} (f : Int → D) (hl : ns.length ≤ LINE) (hs : ∀ n, n ∈ ns → ∀ (R : VQ), R (f n) → g (.int n) σ (fun σ1 => te σ1 R (fun _ => False))) (q : Q (.rol (ns.map f))) : lcV g vYes te σ Q (ns.map D.int) [] := by
  refine z_lcM (fun x => match x with | .int n => f n | _ => .non) (by simpa using hl) (fun x hx R h => ?_) ?_
  · obtain ⟨n, hn, rfl⟩ := List.mem_map.mp hx
    exact hs n hn R h
  · rw [List.map_map]; exact q
theorem z_lcII {g : VG} {te : VE} {ns : List Int} (f : Int → Int) (hl : ns.length ≤ LINE) (hs : ∀ n, n ∈ ns → ∀ (R : VQ), R (.int (f n)) → g (.int n) σ (fun σ1 => te σ1 R (fun _ => False))) (q : Q (.rol ((ns.map f).map D.int))) : lcV g vYes te σ Q (ns.map D.int) [] :=
  z_lcI (fun n => .int (f n)) hl hs (by rw [List.map_map] at q; exact q)
def irange (lo : Int) (n : Nat) : List Int := (List.range n).map fun (k : Nat) => lo + (k : Int)
theorem rangeL_eq (lo : Int) (n : Nat) : rangeL lo n = (irange lo n).map D.int := by unfold rangeL irange; rw [List.map_map]; rfl
theorem mem_irange {lo : Int} {n : Nat} {i : Int} (h : i ∈ irange lo n) : lo ≤ i ∧ i < lo + n := by
  obtain ⟨k, hk, rfl⟩ := List.mem_map.mp h
  have : k < n := by simpa using hk
  omega
theorem len_irange (lo : Int) (n : Nat) : (irange lo n).length = n := by simp [irange]
theorem z_lcR {g : VG} {te : VE} {lo : Int} {n : Nat} (f : Int → D) (hl : n ≤ LINE) (hs : ∀ i, lo ≤ i → i < lo + n → ∀ (R : VQ), R (f i) → g (.int i) σ (fun σ1 => te σ1 R (fun _ => False))) (q : Q (.rol ((irange lo n).map f))) : lcV g vYes te σ Q (rangeL lo n) [] := by
  rw [rangeL_eq]
  exact z_lcI f (by rw [len_irange]; exact hl) (fun i hi R h => hs i (mem_irange hi).1 (mem_irange hi).2 R h) q
/-- a comprehension with draws: each is of P -/
theorem z_lcP {g : VG} {te : VE} {xs : List D} (P : Int → Prop) (hl : xs.length ≤ LINE) (hs : ∀ x, x ∈ xs → ∀ (R : VQ), (∀ i, P i → R (.int i)) → g x σ (fun σ1 => te σ1 R (fun _ => False))) (q : ∀ ns : List Int, ns.length = xs.length → (∀ n ∈ ns, P n) → Q (.rol (ns.map D.int))) : lcV g vYes te σ Q xs [] := by
  have z : ∀ (ys : List D) (acc : List Int), (∀ y ∈ ys, y ∈ xs) → acc.length + ys.length = xs.length → (∀ n ∈ acc, P n) → lcV g vYes te σ Q ys (acc.map D.int) := by
    intro ys
    induction ys with
    | nil => intro acc _ hl h; exact q acc (by simpa using hl) h
    | cons y ys ih =>
      intro acc hm hl' h
      rw [List.length_cons] at hl'
      refine hs y (hm y (List.mem_cons_self ..)) _ fun i hi => ?_
      refine ⟨by rw [List.length_map]; omega, ?_⟩
      have e : acc.map D.int ++ [D.int i] = (acc ++ [i]).map D.int := by rw [List.map_append]; rfl
      rw [e]
      refine ih (acc ++ [i]) (fun z hz => hm z (List.mem_cons_of_mem _ hz)) (by rw [List.length_append, List.length_singleton]; omega) fun n hn => ?_
      rcases List.mem_append.mp hn with z | z
      · exact h n z
      · have : n = i := by simpa using z
        rw [this]; exact hi
  exact z xs [] (fun _ h => h) (by simp) (by simp)
variable {t : VE}
theorem z_cut00 (h : t σ (fun x => cutV x none none Q) E) : vCut t none none σ Q E := h
theorem z_cut01 {h0 : VE} (h : t σ (fun x => h0 σ (fun b => asI b fun j => cutV x none (some j) Q) E) E) : vCut t none (some h0) σ Q E := h
theorem z_cut10 {l : VE} (h : t σ (fun x => l σ (fun a => asI a fun i => cutV x (some i) none Q) E) E) : vCut t (some l) none σ Q E := h
theorem z_cut11 {l h0 : VE} (h : t σ (fun x => l σ (fun a => asI a fun i => h0 σ (fun b => asI b fun j => cutV x (some i) (some j) Q) E) E) E) : vCut t (some l) (some h0) σ Q E := h
theorem z_asI {i : Int} {P : Int → Prop} (h : P i) : asI (.int i) P := h
theorem z_cutT {xs : List D} {lo hi : Option Int} (h : Q (.tup (cutL xs lo hi))) : cutV (.tup xs) lo hi Q := h
theorem z_cutL {xs : List D} {lo hi : Option Int} (h : Q (.rol (cutL xs lo hi))) : cutV (.rol xs) lo hi Q := h
end
theorem z_iteP {p A B : Prop} [Decidable p] (h : p) (k : A) : if decide p = true then A else B := by rw [if_pos (decide_eq_true h)]; exact k
theorem z_iteM {p A B : Prop} [Decidable p] (h : ¬ p) (k : B) : if decide p = true then A else B := by rw [if_neg (by simp [h])]; exact k
theorem z_iteNP {p A B : Prop} [Decidable p] (h : ¬ p) (k : A) : if (!decide p) = true then A else B := by rw [if_pos (by simp [h])]; exact k
theorem z_iteNM {p A B : Prop} [Decidable p] (h : p) (k : B) : if (!decide p) = true then A else B := by rw [if_neg (by simp [h])]; exact k
theorem z_nT {A B : Prop} (h : B) : if (!true) = true then A else B := by rw [if_neg (by decide)]; exact h
theorem z_nF {A B : Prop} (h : A) : if (!false) = true then A else B := by rw [if_pos (by decide)]; exact h
end PD
namespace PD
theorem z_ifT {b : Bool} {A B : Prop} (e : b = true) (h : A) : if b = true then A else B := by rw [if_pos e]; exact h
theorem z_ifF {b : Bool} {A B : Prop} (e : b = false) (h : B) : if b = true then A else B := by rw [if_neg (by rw [e]; decide)]; exact h
end PD
namespace PD
open PySem
theorem z_isiLoc {T : Ty} {a : Nat} {Q : VQ} (h : Q (.bl (isTy T (.loc a)))) : isiV T Q (.loc a) := h
theorem z_isiW {T : Ty} {xs : List D} {Q : VQ} (h : Q (.bl (isTy T (.wtup xs)))) : isiV T Q (.wtup xs) := h
theorem z_powL {i j : Int} {Q : VQ} (h0 : 0 ≤ j) (h1 : j ≤ 1000000) (h2 : i.natAbs < 2 ^ 64) (h : Q (.int (i ^ j.toNat))) : oPow (.int i) (.int j) Q := ⟨⟨h0, h1, h2⟩, h⟩
theorem z_shlL {i j : Int} {Q : VQ} (h0 : 0 ≤ j) (h1 : j ≤ 1000000) (h2 : i.natAbs < 2 ^ 64) (h : Q (.int (i * 2 ^ j.toNat))) : oShl (.int i) (.int j) Q := ⟨⟨h0, h1, h2⟩, h⟩
def strOk (s : Str) : Bool := s.cps.all (· < 0x110000)
theorem z_eqS {a b : Str} {Q : VQ} (ha : strOk a = true) (hb : strOk b = true) (h : Q (.bl (a == b))) : oEq (.str a) (.str b) Q := by
  refine ⟨⟨by simp only [plain]; exact ha, by simp [depth]⟩, ⟨by simp only [plain]; exact hb, by simp [depth]⟩, ?_⟩
  simp only [eqD]; exact h
theorem z_neS {a b : Str} {Q : VQ} (ha : strOk a = true) (hb : strOk b = true) (h : Q (.bl (!(a == b)))) : oNe (.str a) (.str b) Q := by
  refine ⟨⟨by simp only [plain]; exact ha, by simp [depth]⟩, ⟨by simp only [plain]; exact hb, by simp [depth]⟩, ?_⟩
  simp only [eqD]; exact h
end PD
namespace PD
/-- two statements with what holds between them -/
theorem z_seqI {nx bk ct : Ev → Prop} {rt : D → Prop} {ex : Ex → Ev → Prop} {σ : Ev} {t u : VS} (J : Ev → Prop) (h1 : ∀ N : Ev → Prop, (∀ σ', J σ' → N σ') → t ⟨N, rt, bk, ct, ex⟩ σ) (h2 : ∀ σ', J σ' → u ⟨nx, rt, bk, ct, ex⟩ σ') : tSeq t u ⟨nx, rt, bk, ct, ex⟩ σ := h1 _ h2
end PD
namespace PD
open PySem
section
variable {nx bk ct : Ev → Prop} {rt : D → Prop} {ex : Ex → Ev → Prop} {σ : Ev} {te : VE}
theorem z_popT {j i t : Nat} {vi : VI} {xs : List D} (e : look σ i = some (.rol xs)) (h : vi σ (fun ys => popW i t te (fun xs acc => nx (setE (setE (setE σ t none) i (some (.rol xs))) j (some (.tup acc)))) σ ys xs []) (fun x => ex x σ)) : tPopT j i t vi te ⟨nx, rt, bk, ct, ex⟩ σ := by
  show opt (look σ i) _; rw [e]; exact h
theorem z_del {i : Nat} {xs : List D} (e : look σ i = some (.rol xs)) (h : te σ (fun k => asI k fun k => (-(2 ^ 63) ≤ k ∧ k < 2 ^ 63) ∧ opt (ixN xs.length k) fun j => hName i (.rol (xs.eraseIdx j)) σ nx) (fun x => ex x σ)) : tDel i te ⟨nx, rt, bk, ct, ex⟩ σ := by
  show opt (look σ i) _; rw [e]; exact h
theorem z_listR {j : Int} {Q : VQ} (h0 : -(2 ^ 62) ≤ j ∧ j ≤ 16777216) (h : Q (.rol (rangeL 0 j.toNat))) : oListR (.int j) Q := ⟨h0, h⟩
end
end PD
set_option linter.all false
set_option maxRecDepth 100000
namespace PD
open PySem
open PySem PD
local macro_rules | `(tactic| decreasing_trivial_pre_omega) => `(tactic| (repeat (first | with_reducible apply z_seq | with_reducible apply z_asg | with_reducible apply z_ret | with_reducible apply z_retN | with_reducible apply z_drop | with_reducible apply z_next | with_reducible apply z_break | with_reducible apply z_cont | with_reducible apply z_if | with_reducible apply z_par | with_reducible apply z_walk | with_reducible apply z_c | with_reducible apply z_d1 | with_reducible apply z_d2 | with_reducible apply z_nil | with_reducible apply z_cons | with_reducible apply z_args | with_reducible apply z_call | with_reducible apply z_test | with_reducible apply z_asB | with_reducible apply z_andT | with_reducible apply z_orT | with_reducible apply z_notT | with_reducible apply z_andV | with_reducible apply z_orV | with_reducible apply z_notV | with_reducible apply z_ifE | with_reducible apply z_chain | with_reducible apply z_tup | with_reducible apply z_lst | with_reducible apply z_yes | with_reducible apply z_isi | with_reducible apply z_isiN | with_reducible apply z_isiB | with_reducible apply z_isiI | with_reducible apply z_isiS | with_reducible apply z_isiT | with_reducible apply z_isiL | with_reducible apply z_isiLoc | with_reducible apply z_isiW | with_reducible apply z_methLT | with_reducible apply z_methLTt | with_reducible apply z_methLTl | with_reducible apply z_gTup | with_reducible apply z_gWtup | with_reducible apply z_gnn | with_reducible apply z_gDrop | with_reducible apply z_add | with_reducible apply z_sub | with_reducible apply z_neg | with_reducible apply z_lt | with_reducible apply z_le | with_reducible apply z_gt | with_reducible apply z_ge | with_reducible apply z_eq | with_reducible apply z_ne | with_reducible apply z_eqB | with_reducible apply z_neB | with_reducible apply z_is | with_reducible apply z_isNot | with_reducible apply z_lenT | with_reducible apply z_lenL | with_reducible apply z_int | with_reducible apply z_tupT | with_reducible apply z_tupL | with_reducible apply z_listT | with_reducible apply z_listL | with_reducible apply z_wSeq | with_reducible apply z_wT | with_reducible apply z_wL | with_reducible apply z_wRng1 | with_reducible apply z_wRng2 | with_reducible apply z_wEnum | with_reducible apply z_dFld | with_reducible apply z_cut00 | with_reducible apply z_cut01 | with_reducible apply z_cut10 | with_reducible apply z_cut11 | with_reducible apply z_asI | with_reducible apply z_cutT | with_reducible apply z_cutL | with_reducible apply z_nT | with_reducible apply z_nF | with_reducible apply z_max2 | with_reducible apply z_min2 | with_reducible apply z_bits | with_reducible apply z_raise | with_reducible apply z_try | with_reducible apply z_revL | with_reducible refine z_var (by with_unfolding_all rfl) ?_ | with_reducible refine z_gName (by dsimp only [setE] <;> with_unfolding_all rfl) ?_ | with_reducible refine z_gnc (by dsimp only [setE] <;> with_unfolding_all rfl) ?_ | with_reducible refine z_lc (by dsimp only [wipeE, setE] <;> with_unfolding_all rfl) ?_ | with_reducible refine x_len0 (by with_unfolding_all rfl) ?_ | with_reducible refine z_ixT (by with_unfolding_all rfl) ?_ | with_reducible refine z_ixL (by with_unfolding_all rfl) ?_ | with_reducible refine z_walkO (by with_unfolding_all rfl) ?_ | with_reducible refine z_walkOE (by with_unfolding_all rfl) ?_ | with_reducible refine z_app (by with_unfolding_all rfl) ?_ | with_reducible refine z_set (by with_unfolding_all rfl) ?_ | with_reducible refine z_pop1 (by with_unfolding_all rfl) ?_ | with_reducible refine z_mv (by with_unfolding_all rfl) ?_ | with_reducible refine z_popT (by with_unfolding_all rfl) ?_ | with_reducible refine z_del (by with_unfolding_all rfl) ?_ | with_reducible refine z_listR (by omega) ?_ | with_reducible refine z_fld (by with_unfolding_all rfl) ?_ | with_reducible refine z_mod (by omega) ?_ | with_reducible refine z_div64 (by omega) ?_ | with_reducible refine z_mul64 (by omega) ?_ | with_reducible refine z_powL (by decide) (by decide) (by decide) ?_ | with_reducible refine z_shlL (by decide) (by decide) (by decide) ?_ | with_reducible refine z_rng (by omega) ?_ | with_reducible refine z_rng2 (by omega) ?_ | with_reducible refine x_iteT ?_ | with_reducible refine x_iteF ?_ | with_reducible refine z_ifT (by with_unfolding_all rfl) ?_ | with_reducible refine z_ifF (by with_unfolding_all rfl) ?_ | with_reducible refine z_iteP (by omega) ?_ | with_reducible refine z_iteM (by omega) ?_ | with_reducible refine z_iteNP (by omega) ?_ | with_reducible refine z_iteNM (by omega) ?_ | with_reducible refine z_eqS (by decide +kernel) (by decide +kernel) ?_ | with_reducible refine z_neS (by decide +kernel) (by decide +kernel) ?_ | with_reducible refine z_ifT (by decide +kernel) ?_ | with_reducible refine z_ifF (by decide +kernel) ?_)))
local macro_rules | `(tactic| get_elem_tactic_trivial) => `(tactic| (repeat (first | with_reducible apply z_asg | with_reducible apply z_ret | with_reducible apply z_retN | with_reducible apply z_drop | with_reducible apply z_next | with_reducible apply z_break | with_reducible apply z_cont | with_reducible apply z_if | with_reducible apply z_par | with_reducible apply z_walk | with_reducible apply z_c | with_reducible apply z_d1 | with_reducible apply z_d2 | with_reducible apply z_nil | with_reducible apply z_cons | with_reducible apply z_args | with_reducible apply z_call | with_reducible apply z_test | with_reducible apply z_asB | with_reducible apply z_andT | with_reducible apply z_orT | with_reducible apply z_notT | with_reducible apply z_andV | with_reducible apply z_orV | with_reducible apply z_notV | with_reducible apply z_ifE | with_reducible apply z_chain | with_reducible apply z_tup | with_reducible apply z_lst | with_reducible apply z_yes | with_reducible apply z_isi | with_reducible apply z_isiN | with_reducible apply z_isiB | with_reducible apply z_isiI | with_reducible apply z_isiS | with_reducible apply z_isiT | with_reducible apply z_isiL | with_reducible apply z_isiLoc | with_reducible apply z_isiW | with_reducible apply z_methLT | with_reducible apply z_methLTt | with_reducible apply z_methLTl | with_reducible apply z_gTup | with_reducible apply z_gWtup | with_reducible apply z_gnn | with_reducible apply z_gDrop | with_reducible apply z_add | with_reducible apply z_sub | with_reducible apply z_neg | with_reducible apply z_lt | with_reducible apply z_le | with_reducible apply z_gt | with_reducible apply z_ge | with_reducible apply z_eq | with_reducible apply z_ne | with_reducible apply z_eqB | with_reducible apply z_neB | with_reducible apply z_is | with_reducible apply z_isNot | with_reducible apply z_lenT | with_reducible apply z_lenL | with_reducible apply z_int | with_reducible apply z_tupT | with_reducible apply z_tupL | with_reducible apply z_listT | with_reducible apply z_listL | with_reducible apply z_wSeq | with_reducible apply z_wT | with_reducible apply z_wL | with_reducible apply z_wRng1 | with_reducible apply z_wRng2 | with_reducible apply z_wEnum | with_reducible apply z_dFld | with_reducible apply z_cut00 | with_reducible apply z_cut01 | with_reducible apply z_cut10 | with_reducible apply z_cut11 | with_reducible apply z_asI | with_reducible apply z_cutT | with_reducible apply z_cutL | with_reducible apply z_nT | with_reducible apply z_nF | with_reducible apply z_max2 | with_reducible apply z_min2 | with_reducible apply z_bits | with_reducible apply z_raise | with_reducible apply z_try | with_reducible apply z_revL | with_reducible refine z_var (by with_unfolding_all rfl) ?_ | with_reducible refine z_gName (by dsimp only [setE] <;> with_unfolding_all rfl) ?_ | with_reducible refine z_gnc (by dsimp only [setE] <;> with_unfolding_all rfl) ?_ | with_reducible refine z_lc (by dsimp only [wipeE, setE] <;> with_unfolding_all rfl) ?_ | with_reducible refine x_len0 (by with_unfolding_all rfl) ?_ | with_reducible refine z_ixT (by with_unfolding_all rfl) ?_ | with_reducible refine z_ixL (by with_unfolding_all rfl) ?_ | with_reducible refine z_walkO (by with_unfolding_all rfl) ?_ | with_reducible refine z_walkOE (by with_unfolding_all rfl) ?_ | with_reducible refine z_app (by with_unfolding_all rfl) ?_ | with_reducible refine z_set (by with_unfolding_all rfl) ?_ | with_reducible refine z_pop1 (by with_unfolding_all rfl) ?_ | with_reducible refine z_mv (by with_unfolding_all rfl) ?_ | with_reducible refine z_popT (by with_unfolding_all rfl) ?_ | with_reducible refine z_del (by with_unfolding_all rfl) ?_ | with_reducible refine z_listR (by omega) ?_ | with_reducible refine z_fld (by with_unfolding_all rfl) ?_ | with_reducible refine z_mod (by omega) ?_ | with_reducible refine z_div64 (by omega) ?_ | with_reducible refine z_mul64 (by omega) ?_ | with_reducible refine z_powL (by decide) (by decide) (by decide) ?_ | with_reducible refine z_shlL (by decide) (by decide) (by decide) ?_ | with_reducible refine z_rng (by omega) ?_ | with_reducible refine z_rng2 (by omega) ?_ | with_reducible refine x_iteT ?_ | with_reducible refine x_iteF ?_ | with_reducible refine z_ifT (by with_unfolding_all rfl) ?_ | with_reducible refine z_ifF (by with_unfolding_all rfl) ?_ | with_reducible refine z_iteP (by omega) ?_ | with_reducible refine z_iteM (by omega) ?_ | with_reducible refine z_iteNP (by omega) ?_ | with_reducible refine z_iteNM (by omega) ?_ | with_reducible refine z_eqS (by decide +kernel) (by decide +kernel) ?_ | with_reducible refine z_neS (by decide +kernel) (by decide +kernel) ?_ | with_reducible refine z_ifT (by decide +kernel) ?_ | with_reducible refine z_ifF (by decide +kernel) ?_)))

/-! PDVLib: defs that many laws have, over values; numbers. -/
theorem filter_all (ys : List D) : ys.filter (fun _ => true) = ys := List.filter_eq_self.mpr fun _ _ => rfl
theorem z_one {row : D} {xs : List D} {Q : VQ} {E : VX} (e : seqV row = some xs) (hn : xs ≠ []) (hl : xs.length < 2 ^ 64) (h : ∀ d ∈ xs, Q d) :
    vBody 2 0 (tRet (v2 oIx (vVar 1) (vCall spendV (vCons (vVar 0) (vCons (vArgs bLen (vCons (vVar 1) (vNil))) (vNil)))))) [.non, row] Q E := by
  refine vb_mk rfl ?_
  show tRet _ _ [some .non, some row]
  have hp : 0 < xs.length := List.length_pos_iff.mpr hn
  have fin : ∀ t : Int, 0 ≤ t → (t < xs.length ∨ (xs.length : Int) < 2 ∧ t = 0) → oIx row (.int t) Q := fun t h0 h1 => by
    obtain ⟨d, h2, h3⟩ := at_in (xs := xs) h0 (by omega)
    show opt (seqV row) _
    rw [e]
    show opt (atI xs t) _
    rw [h2]
    exact h d h3
  decreasing_trivial_pre_omega
  have el : bLen [row] fun x => spendV [.non, x] (fun y => oIx row y Q) E := by
    have : lenV row = some xs.length := by
      cases row <;> first | (cases e; rfl) | cases e
    show opt (lenV row) _
    rw [this]
    exact z_spend (E := E) (Q := fun y => oIx row y Q) (n := ((xs.length : Nat) : Int)) (by omega) fin
  exact el
def wholeD : D → Bool
  | .int _ => true
  | _ => false
/-- no exception -/
def okV : D → Prop
  | .exv .. => False
  | _ => True
theorem z_whole {x : D} {Q : VQ} {E : VX} (h : okV x) (q : Q (.bl (wholeD x))) : vBody 1 0 (tRet (vAndV (vIsi .tint (vVar 0)) (vNotV (vIsi .tbool (vVar 0))))) [x] Q E := by
  refine vb_mk rfl ?_
  show tRet _ _ [some x]
  decreasing_trivial_pre_omega
  cases x with
  | exv a d ns xs => exact False.elim h
  | _ =>
    decreasing_trivial_pre_omega
    exact q
def betD (a b : Int) : D → Bool
  | .int i => decide (a ≤ i) && decide (i ≤ b)
  | _ => false
theorem z_between {x : D} {a b : Int} {Q : VQ} {E : VX} (h : okV x) (q : Q (.bl (betD a b x))) :
    vBody 3 0 (tRet (vAndV (vCall (vBody 1 0 (tRet (vAndV (vIsi .tint (vVar 0)) (vNotV (vIsi .tbool (vVar 0)))))) (vCons (vVar 0) (vNil))) (vChain oLe oLe (vVar 1) (vVar 0) (vVar 2)))) [x, .int a, .int b] Q E := by
  refine vb_mk rfl ?_
  show tRet _ _ [some x, some (.int a), some (.int b)]
  decreasing_trivial_pre_omega
  refine z_whole h ?_
  cases x with
  | int i =>
    refine z_asB (x_iteT ?_)
    decreasing_trivial_pre_omega
    by_cases h1 : a ≤ i
    · decreasing_trivial_pre_omega
      simpa [betD, h1] using q
    · decreasing_trivial_pre_omega
      simpa [betD, h1] using q
  | _ => exact q
theorem z_cf {row : D} {ns : List Int} {Q : VQ} {E : VX} (e : row = .tup (ns.map D.int) ∨ row = .rol (ns.map D.int)) (h0 : ∀ n ∈ ns, 0 ≤ n) (q : Q (.int (gcdL ns 0 : Nat))) :
    vBody 1 2 (tSeq (tAsg (vC (.int 0)) (hName 1)) (tSeq (tFor (kSeq (vVar 0)) (hName 2) (tAsg (vArgs bGcd (vCons (vVar 1) (vCons (vVar 2) (vNil)))) (hName 1))) (tRet (vVar 1)))) [row] Q E := by
  refine vb_mk rfl ?_
  show tSeq _ _ _ [some row, none, none]
  have main : ∀ row, forV (hName 2) (tAsg (vArgs bGcd (vCons (vVar 1) (vCons (vVar 2) (vNil)))) (hName 1)) ⟨tRet (vVar 1) ⟨fun _ => Q .non, Q, fun _ => False, fun _ => False, fun x _ => E x⟩, Q, fun _ => False, fun _ => False, fun x _ => E x⟩ (ns.map D.int) [some row, some (.int 0), none] := fun row => by
    refine z_forI (fun r σ => ∃ g x, σ = [some row, some (.int (g : Nat)), x] ∧ gcdL r g = gcdL ns 0 ∧ ∀ n ∈ r, 0 ≤ n) ⟨0, none, rfl, rfl, h0⟩ (fun n r σ N h hN => ?_) fun σ h => ?_
    · obtain ⟨g, x, rfl, h1, h2⟩ := h
      obtain ⟨m, rfl⟩ := Int.eq_ofNat_of_zero_le (h2 n (List.mem_cons_self ..))
      decreasing_trivial_pre_omega
      refine z_gcd ?_
      decreasing_trivial_pre_omega
      exact hN _ ⟨_, _, rfl, h1, fun n hn => h2 n (List.mem_cons_of_mem _ hn)⟩
    · obtain ⟨g, x, rfl, h1, h2⟩ := h
      decreasing_trivial_pre_omega
      rw [← h1] at q
      exact q
  rcases e with rfl | rfl
  · decreasing_trivial_pre_omega
    exact main _
  · decreasing_trivial_pre_omega
    exact main _
/-! ### greatest common parts -/
theorem gcdL_pos {ns : List Int} {n : Int} (hn : n ∈ ns) (h : 1 ≤ n) : 0 < gcdL ns 0 ∧ ((gcdL ns 0 : Nat) : Int) ≤ n := by
  have hd := gcdL_mem ns 0 n hn
  have h0 : 0 < n.toNat := by omega
  have := Nat.le_of_dvd h0 hd
  refine ⟨Nat.pos_of_dvd_of_pos hd h0, by omega⟩
theorem div_mem {ns : List Int} {n : Int} (hn : n ∈ ns) (h : 1 ≤ n) : 1 ≤ n / ((gcdL ns 0 : Nat) : Int) ∧ n / ((gcdL ns 0 : Nat) : Int) ≤ n := by
  obtain ⟨h1, h2⟩ := gcdL_pos hn h
  refine ⟨?_, Int.ediv_le_self _ (by omega)⟩
  exact Int.le_ediv_of_mul_le (by omega) (by omega)
theorem gcdL_great {d : Nat} : ∀ (ns : List Int) (g : Nat), d ∣ g → (∀ n ∈ ns, d ∣ n.toNat) → d ∣ gcdL ns g
  | [], g, h, _ => h
  | n :: ns, g, h, k => gcdL_great ns _ (Nat.dvd_gcd h (k n (List.mem_cons_self ..))) fun m hm => k m (List.mem_cons_of_mem _ hm)
/-- parts over their common factor -/
def lowI (ns : List Int) : List Int := ns.map fun n => n / ((gcdL ns 0 : Nat) : Int)
theorem len_lowI (ns : List Int) : (lowI ns).length = ns.length := by simp [lowI]
theorem gcd_low {ns : List Int} {n0 : Int} (h0 : n0 ∈ ns) (hp : ∀ n ∈ ns, 1 ≤ n) : gcdL (lowI ns) 0 = 1 := by
  obtain ⟨g1, _⟩ := gcdL_pos h0 (hp n0 h0)
  have hd : gcdL ns 0 * gcdL (lowI ns) 0 ∣ gcdL ns 0 := by
    refine gcdL_great ns 0 (Nat.dvd_zero _) fun n hn => ?_
    obtain ⟨m, rfl⟩ := Int.eq_ofNat_of_zero_le (show 0 ≤ n by have := hp n hn; omega)
    have k1 : gcdL ns 0 ∣ m := by simpa using gcdL_mem ns 0 _ hn
    have k2 := gcdL_mem (lowI ns) 0 _ (List.mem_map.mpr ⟨_, hn, rfl⟩)
    have e : ((m : Int) / ((gcdL ns 0 : Nat) : Int)).toNat = m / gcdL ns 0 := by
      rw [show ((m : Int) / ((gcdL ns 0 : Nat) : Int)) = ((m / gcdL ns 0 : Nat) : Int) by push_cast; rfl, Int.toNat_natCast]
    rw [e] at k2
    have k3 := Nat.mul_dvd_mul_left (gcdL ns 0) k2
    rw [Nat.mul_div_cancel' k1] at k3
    simpa using k3
  obtain ⟨h1, _⟩ := gcdL_pos (ns := lowI ns) (List.mem_map.mpr ⟨n0, h0, rfl⟩) (div_mem h0 (hp n0 h0)).1
  have hle := Nat.le_of_dvd g1 hd
  generalize gcdL (lowI ns) 0 = h at *
  generalize gcdL ns 0 = g at *
  have : g * h ≤ g * 1 := by omega
  have := Nat.le_of_mul_le_mul_left this g1
  omega
/-- tuple([n // g for n in ns]) -/
theorem z_over {g : Int} {σ : Ev} {j k : Nat} {ns : List Int} {Q : VQ} {wi : VI} {E : VX} (hw : ∀ R : List D → Prop, R (ns.map D.int) → wi σ R E) (h2 : ∀ d, look (setE (setE σ k none) k (some d)) j = some (.int g)) (h3 : ∀ d, look (setE (setE σ k none) k (some d)) k = some d)
    (hn : ns.length ≤ LINE) (hg : 0 < g ∧ g < 2 ^ 64) (q : Q (.rol ((ns.map fun n => n / g).map D.int))) :
    vLc wi (hName k) (vYes) (v2 oDiv (vVar k) (vVar j)) [k] σ Q E := by
  refine z_lc rfl ?_
  refine hw _ ?_
  refine z_lcII (fun n => n / g) hn (fun n hn R h => ?_) q
  refine z_gName rfl ?_
  decreasing_trivial_pre_omega
  refine z_var (h3 _) ?_
  refine z_var (h2 _) ?_
  decreasing_trivial_pre_omega
  exact h
/-! ### data that == looks at -/
theorem plain_ints : ∀ ns : List Int, plainL (ns.map D.int) = true
  | [] => by simp [plainL]
  | n :: ns => by simp only [List.map_cons, plainL, plain, Bool.true_and]; exact plain_ints ns
theorem depth_ints : ∀ ns : List Int, depthL (ns.map D.int) = 0
  | [] => by simp [depthL]
  | n :: ns => by simp only [List.map_cons, depthL, depth, depth_ints ns]; rfl
theorem size_ints : ∀ ns : List Int, sizeL (ns.map D.int) = ns.length
  | [] => by simp [sizeL]
  | n :: ns => by simp only [List.map_cons, sizeL, size, size_ints ns, List.length_cons]; omega
theorem plain_tupI (ns : List Int) : plain (.tup (ns.map D.int)) = true := by simp only [plain]; exact plain_ints ns
theorem depth_tupI (ns : List Int) : depth (.tup (ns.map D.int)) = 1 := by simp only [depth, depth_ints]
theorem size_tupI (ns : List Int) : size (.tup (ns.map D.int)) = ns.length + 1 := by simp only [size, size_ints]
/-- data of small size -/
def Sm (d n : Nat) (x : D) : Prop := plain x = true ∧ depth x ≤ d ∧ size x ≤ n
theorem sm_int {d n : Nat} (h : 1 ≤ n) (i : Int) : Sm d n (.int i) := ⟨by simp [plain], by simp [depth], by simp [size, h]⟩
theorem sm_non {d n : Nat} (h : 1 ≤ n) : Sm d n .non := ⟨by simp [plain], by simp [depth], by simp [size, h]⟩
theorem sm_bl {d n : Nat} (h : 1 ≤ n) (b : Bool) : Sm d n (.bl b) := ⟨by simp [plain], by simp [depth], by simp [size, h]⟩
theorem sm_str {d n : Nat} (h : 1 ≤ n) {s : Str} (hs : s.cps.all (· < 0x110000) = true) : Sm d n (.str s) := ⟨by simpa [plain] using hs, by simp [depth], by simp [size, h]⟩
theorem sm_list : ∀ {xs : List D} {d n : Nat}, (∀ x ∈ xs, Sm d n x) → plainL xs = true ∧ depthL xs ≤ d ∧ sizeL xs ≤ xs.length * n
  | [], d, n, _ => ⟨by simp [plainL], by simp [depthL], by simp [sizeL]⟩
  | x :: xs, d, n, h => by
    obtain ⟨h1, h2, h3⟩ := sm_list fun y hy => h y (List.mem_cons_of_mem _ hy)
    obtain ⟨k1, k2, k3⟩ := h x (List.mem_cons_self ..)
    refine ⟨by simp [plainL, h1, k1], by simp only [depthL]; omega, ?_⟩
    simp only [sizeL, List.length_cons, Nat.succ_mul]
    omega
theorem sm_tup {xs : List D} {d n m : Nat} (h : ∀ x ∈ xs, Sm d n x) (hm : xs.length * n + 1 ≤ m) : Sm (d + 1) m (.tup xs) := by
  obtain ⟨h1, h2, h3⟩ := sm_list h
  exact ⟨by simpa [plain] using h1, by simp only [depth]; omega, by simp only [size]; omega⟩
theorem sm_le {x : D} {d n d' n' : Nat} (h : Sm d n x) (h1 : d ≤ d') (h2 : n ≤ n') : Sm d' n' x := ⟨h.1, Nat.le_trans h.2.1 h1, Nat.le_trans h.2.2 h2⟩
theorem sm_ints {ns : List Int} {d m : Nat} (hm : ns.length + 1 ≤ m) : Sm (d + 1) m (.tup (ns.map D.int)) :=
  sm_tup (n := 1) (fun x hx => by obtain ⟨i, _, rfl⟩ := List.mem_map.mp hx; exact sm_int (Nat.le_refl _) i) (by simpa using hm)
theorem z_sm {x : D} {Q : VQ} {E : VX} {d n : Nat} (h : Sm d n x) (hd : d ≤ 64) (hn : n ≤ 1000000) (q : Q (.bl true)) : sameV [x, x] Q E := z_same h.1 (Nat.le_trans h.2.1 hd) (Nat.le_trans h.2.2 hn) q
/-! ### places -/
theorem ixn {n : Nat} {t : Int} (h0 : 0 ≤ t) (h1 : t < n) : ixN n t = some t.toNat := by unfold ixN; rw [if_pos h0, if_pos h1]
theorem z_ixn {n : Nat} {t : Int} {k : Nat → Prop} (h0 : 0 ≤ t) (h1 : t < n) (h : k t.toNat) : opt (ixN n t) k := by rw [ixn h0 h1]; exact h
theorem set_ints (ns : List Int) (j : Nat) (v : Int) : (ns.map D.int).set j (.int v) = (ns.set j v).map D.int := (List.map_set ..).symm
theorem app_ints (ns : List Int) (v : Int) : ns.map D.int ++ [.int v] = (ns ++ [v]).map D.int := by rw [List.map_append]; rfl
theorem mem_set_of {ns : List Int} {j : Nat} {v n : Int} {P : Int → Prop} (h : ∀ n ∈ ns, P n) (hv : P v) (hn : n ∈ ns.set j v) : P n := by
  rcases List.mem_or_eq_of_mem_set hn with z | z
  · exact h n z
  · rw [z]; exact hv
theorem sum_map_add (c : Int) : ∀ ns : List Int, (ns.map fun n => n + c).sum = ns.sum + ns.length * c
  | [] => by simp
  | n :: ns => by
    rw [List.map_cons, List.sum_cons, List.sum_cons, sum_map_add c ns, List.length_cons]
    push_cast
    rw [Int.add_mul]
    omega
theorem at_int {ns : List Int} {k : Nat} {n : Int} (h : ns[k]? = some n) : atI (ns.map D.int) (k : Int) = some (.int n) := by
  have hl : k < ns.length := by
    rcases Nat.lt_or_ge k ns.length with z | z
    · exact z
    · rw [List.getElem?_eq_none z] at h; cases h
  unfold atI ixN
  rw [if_pos (by omega), if_pos (by rw [List.length_map]; omega)]
  show (ns.map D.int)[(k : Int).toNat]? = _
  rw [Int.toNat_natCast, List.getElem?_map, h]; rfl
theorem at_nat {xs : List D} {k : Nat} {d : D} (h : xs[k]? = some d) : atI xs (k : Int) = some d := by
  have hl : k < xs.length := by
    rcases Nat.lt_or_ge k xs.length with z | z
    · exact z
    · rw [List.getElem?_eq_none z] at h; cases h
  unfold atI ixN
  rw [if_pos (by omega), if_pos (by omega)]
  show xs[(k : Int).toNat]? = _
  rw [Int.toNat_natCast, h]
/-! ### the first place of something -/
theorem fi_some : ∀ {xs : List D} {p : D → Bool} {k : Nat} {x : D}, xs[k]? = some x → p x = true → (∀ j y, j < k → xs[j]? = some y → p y = false) → xs.findIdx? p = some k
  | [], p, k, x, h, _, _ => by simp at h
  | z :: xs, p, 0, x, h, hp, _ => by
    simp at h; subst h
    simp [List.findIdx?_cons, hp]
  | z :: xs, p, k + 1, x, h, hp, hj => by
    have h0 : p z = false := hj 0 z (Nat.zero_lt_succ k) (by simp)
    have := fi_some (xs := xs) (p := p) (k := k) (x := x) (by simpa using h) hp fun j y h1 h2 => hj (j + 1) y (Nat.succ_lt_succ h1) (by simpa using h2)
    simp [List.findIdx?_cons, h0, this]
theorem fi_none : ∀ {xs : List D} {p : D → Bool}, (∀ j y, j < xs.length → xs[j]? = some y → p y = false) → xs.findIdx? p = none
  | [], p, _ => by simp
  | z :: xs, p, h => by
    have h0 : p z = false := h 0 z (by simp) (by simp)
    have := fi_none (xs := xs) (p := p) fun j y h1 h2 => h (j + 1) y (by simpa using h1) (by simpa using h2)
    simp [List.findIdx?_cons, h0, this]
section
variable {nx bk ct : Ev → Prop} {rt : D → Prop} {ex : Ex → Ev → Prop} {σ : Ev} {t : VS} {g : VG}
/-- a for over enumerate that leaves at the first x of p -/
theorem z_findE {xs : List D} (p : D → Bool) (I : Ev → Prop) (h0 : I σ) (hs : ∀ k x σ (N : Ev → Prop), xs[k]? = some x → I σ → (p x = true → xs.findIdx? p = some k) → (p x = false → ∀ σ', I σ' → N σ') → g (.wtup [.int (k : Nat), x]) σ (fun σ1 => t ⟨N, rt, nx, N, ex⟩ σ1))
    (h1 : xs.findIdx? p = none → ∀ σ, I σ → nx σ) : forV g t ⟨nx, rt, bk, ct, ex⟩ (enumL xs 0) σ := by
  refine z_forE (fun k σ => I σ ∧ ∀ j y, j < k → xs[j]? = some y → p y = false) ⟨h0, fun j y h => by omega⟩ (fun k x σ N hx h hN => ?_) fun σ h => h1 (fi_none h.2) σ h.1
  refine hs k x σ N hx h.1 (fun hp => fi_some hx hp h.2) fun hp σ' h' => hN σ' ⟨h', fun j y hj hy => ?_⟩
  rcases Nat.lt_or_ge j k with z | z
  · exact h.2 j y z hy
  · have : j = k := by omega
    subst this
    rw [hx] at hy; cases hy; exact hp
/-- a for over range(len(xs)) that leaves at the first x of p -/
theorem z_findR {xs : List D} (p : D → Bool) (I : Ev → Prop) (h0 : I σ) (hs : ∀ k x σ (N : Ev → Prop), xs[k]? = some x → atI xs (k : Nat) = some x → I σ → (p x = true → xs.findIdx? p = some k) → (p x = false → ∀ σ', I σ' → N σ') → g (.int (k : Nat)) σ (fun σ1 => t ⟨N, rt, nx, N, ex⟩ σ1))
    (h1 : xs.findIdx? p = none → ∀ σ, I σ → nx σ) : forV g t ⟨nx, rt, bk, ct, ex⟩ (rangeL 0 xs.length) σ := by
  refine z_forR (fun k σ => I σ ∧ ∀ j y, j < k → xs[j]? = some y → p y = false) ⟨h0, fun j y h => by omega⟩ (fun k σ N hk h hN => ?_) fun σ h => h1 (fi_none h.2) σ h.1
  have hx : xs[k]? = some xs[k] := List.getElem?_eq_getElem hk
  rw [Int.zero_add]
  refine hs k _ σ N hx (at_nat hx) h.1 (fun hp => fi_some hx hp h.2) fun hp σ' h' => hN σ' ⟨h', fun j y hj hy => ?_⟩
  rcases Nat.lt_or_ge j k with z | z
  · exact h.2 j y z hy
  · have : j = k := by omega
    subst this
    rw [hx] at hy; cases hy; exact hp
end
theorem toNat_len (xs : List D) : ((xs.length : Nat) : Int).toNat = xs.length := Int.toNat_natCast _
theorem fi_ints : ∀ {xs : List D} {a b : Int}, xs.findIdx? (fun x => !betD a b x) = none → ∃ ns : List Int, xs = ns.map D.int ∧ ∀ n ∈ ns, a ≤ n ∧ n ≤ b
  | [], a, b, _ => ⟨[], rfl, fun _ h => by cases h⟩
  | x :: xs, a, b, h => by
    rw [List.findIdx?_cons] at h
    by_cases hg : betD a b x = true
    · simp [hg] at h
      obtain ⟨ns, e, p⟩ := fi_ints (xs := xs) (a := a) (b := b) (by
        rw [List.findIdx?_eq_none_iff]; intro y hy; simpa using h y hy)
      cases x with
      | int i =>
        simp only [betD, Bool.and_eq_true, decide_eq_true_eq] at hg
        refine ⟨i :: ns, by rw [e]; rfl, fun n hn => ?_⟩
        rcases List.mem_cons.mp hn with z | z
        · rw [z]; exact hg
        · exact p n z
      | _ => cases hg
    · simp [hg] at h
end PD
set_option linter.all false
set_option maxRecDepth 100000
/-! what the defs of the text ask, on data (printed by gen.py) -/
namespace L_throwntrue_k01_die_edits
open PySem PD
/-- of which class is which clause -/
def isaL : List ((Str × Str) × Bool) := [(("BadDie", "ThrowError"), true), (("BadDie", "BadDie"), true)]
def isaT : Str → Str → Option Bool := isaOf isaL
/-- slots: 0 value -/
def b_is_whole : DS := sRet (dAndV (dIsi .tint (dVar 0)) (dNotV (dIsi .tbool (dVar 0))))
def p_is_whole : Pr := prBody 1 0 b_is_whole
/-- slots: 0 value, 1 least, 2 most -/
def b_is_between : DS := sRet (dAndV (dCall p_is_whole (dCons (dVar 0) (dNil))) (dChain uLe uLe (dVar 1) (dVar 0) (dVar 2)))
def p_is_between : Pr := prBody 3 0 b_is_between
/-- slots: 0 numbers, 1 common, 2 number -/
def b_common_factor : DS := sSeq (sAsg (dC (.int 0)) (gName 1)) (sSeq (sFor (wSeq (dVar 0)) (gName 2) (sAsg (dArgs aGcd (dCons (dVar 1) (dCons (dVar 2) (dNil)))) (gName 1))) (sRet (dVar 1)))
def p_common_factor : Pr := prBody 1 2 b_common_factor
/-- slots: 0 thing, 1 at, 2 weight -/
def b_check_die : DS := sSeq (sIf (dNotT (dTest (dIsi .ttuple (dVar 0)))) (sRaise "BadDie" ["at", "word"] (dCons (d1 uNeg (dC (.int 1))) (dCons (dC (.str "shape")) (dNil)))) (sNext)) (sSeq (sIf (dNotT (dTest (dChain uLe uLe (dC (.int 2)) (dArgs aLen (dCons (dVar 0) (dNil))) (dC (.int 5))))) (sRaise "BadDie" ["at", "word"] (dCons (d1 uNeg (dC (.int 1))) (dCons (dC (.str "many")) (dNil)))) (sNext)) (sSeq (sFor (wEnum (dVar 0)) (gTup [1, 2]) (sIf (dNotT (dTest (dCall p_is_between (dCons (dVar 2) (dCons (dC (.int 1)) (dCons (dC (.int 5)) (dNil))))))) (sRaise "BadDie" ["at", "word"] (dCons (dVar 1) (dCons (dC (.str "weight")) (dNil)))) (sNext))) (sSeq (sIf (dTest (d2 uGt (d1 uLenSet (dVar 0)) (dC (.int 2)))) (sRaise "BadDie" ["at", "word"] (dCons (d1 uNeg (dC (.int 1))) (dCons (dC (.str "sizes")) (dNil)))) (sNext)) (sSeq (sIf (dTest (d2 uGt (dCall p_common_factor (dCons (dVar 0) (dNil))) (dC (.int 1)))) (sRaise "BadDie" ["at", "word"] (dCons (d1 uNeg (dC (.int 1))) (dCons (dC (.str "common")) (dNil)))) (sNext)) (sRet (dArgs aSum (dCons (dVar 0) (dNil))))))))
def p_check_die : Pr := prBody 1 2 b_check_die
/-- slots: 0 weights, 1 common, 2 die, 3 weight -/
def b_lowest_die : DS := sSeq (sAsg (dCall p_common_factor (dCons (dVar 0) (dNil))) (gName 1)) (sSeq (sAsg (dArgs aTuple (dCons (dLc (wSeq (dVar 0)) (gName 3) (tYes) (d2 uDiv (dVar 3) (dVar 1)) [3]) (dNil))) (gName 2)) (sSeq (sDrop (dCall p_check_die (dCons (dVar 2) (dNil)))) (sRet (dVar 2))))
def p_lowest_die : Pr := prBody 1 3 b_lowest_die
/-- slots: 0 die, 1 many, 2 cut -/
def b_turned_die : DS := sSeq (sAsg (d2 uMod (dVar 1) (dArgs aLen (dCons (dVar 0) (dNil)))) (gName 2)) (sRet (d2 uAdd (dCut (dVar 0) (some (dVar 2)) none) (dCut (dVar 0) none (some (dVar 2)))))
def p_turned_die : Pr := prBody 2 1 b_turned_die
/-- slots: 0 die, 1 places, 2 weights, 3 face, 4 place -/
def b_mixed_die : DS := sSeq (sAsg (dArgs aList (dCons (dVar 0) (dNil))) (gName 2)) (sSeq (sFor (wEnum (dVar 1)) (gTup [3, 4]) (sAsg (d2 uIx (dVar 0) (dVar 3)) (gSub (dVar 2) (dVar 4)))) (sRet (dArgs aTuple (dCons (dVar 2) (dNil)))))
def p_mixed_die : Pr := prBody 2 3 b_mixed_die
/-- slots: 0 die -/
def b_die_total : DS := sRet (dArgs aSum (dCons (dVar 0) (dNil)))
def p_die_total : Pr := prBody 1 0 b_die_total
/-- slots: 0 die, 1 face, 2 weight -/
def b_light_faces : DS := sRet (dArgs aTuple (dCons (dLc (wEnum (dVar 0)) (gTup [1, 2]) (dTest (d2 uNe (dVar 2) (d2 uIx (dVar 0) (dC (.int 0))))) (dVar 1) [1, 2]) (dNil)))
def p_light_faces : Pr := prBody 1 2 b_light_faces
/-- slots: 0 die, 1 light, 2 weight -/
def b_die_form : DS := sSeq (sAsg (dCall p_light_faces (dCons (dVar 0) (dNil))) (gName 1)) (sSeq (sAsg (dIf (dTest (d2 uGt (dArgs aLen (dCons (dVar 1) (dNil))) (dC (.int 0)))) (d2 uIx (dVar 0) (d2 uIx (dVar 1) (dC (.int 0)))) (dC (.int 1))) (gName 2)) (sRet (dTup (dCons (d2 uIx (dVar 0) (dC (.int 0))) (dCons (d2 uSub (dArgs aLen (dCons (dVar 0) (dNil))) (dArgs aLen (dCons (dVar 1) (dNil)))) (dCons (dVar 2) (dCons (dArgs aLen (dCons (dVar 1) (dNil))) (dNil))))))))
def p_die_form : Pr := prBody 1 2 b_die_form
/-- slots: 0 script, 1 worth, 2 deep, 3 cell, 4 plain -/
def b__law_purse : DS := sSeq (sAsg (dC (.int 37013)) (gName 1)) (sSeq (sAsg (dLst (dNil)) (gName 2)) (sSeq (sFor (wSeq (dCut (dVar 0) none (some (dC (.int 50))))) (gName 3) (sSeq (sAsg (d2 uMod (dArgs aAbs (dCons (dArgs aInt (dCons (dVar 3) (dNil))) (dNil))) (d2 uShl (dC (.int 1)) (dC (.int 2000)))) (gName 4)) (sSeq (sAsg (d2 uMod (dArgs aInt (dCons (d2 uAdd (d2 uAdd (d2 uMul (dVar 1) (dC (.int 52361))) (d2 uMod (dArgs aInt (dCons (dVar 4) (dNil))) (dC (.int 1000001011)))) (dC (.int 211))) (dNil))) (dC (.int 2147483563))) (gName 1)) (sIf (dTest (d2 uGe (dVar 4) (d2 uPow (dC (.int 10)) (dC (.int 18))))) (sDrop (dMeth .list mAppend (dVar 2) (dCons (dVar 4) dNil))) (sNext))))) (sRet (dLst (dCons (d1 uRev (dVar 2)) (dCons (dVar 1) (dCons (dC (.int 0)) (dNil))))))))
def p__law_purse : Pr := prBody 1 4 b__law_purse
/-- slots: 0 purse, 1 many, 2 told -/
def b__law_spend : DS := sSeq (sIf (dTest (d2 uLt (dVar 1) (dC (.int 2)))) (sRet (dC (.int 0))) (sNext)) (sSeq (sIf (dAndT (dTest (d2 uEq (d2 uIx (dVar 0) (dC (.int 2))) (dC (.int 0)))) (dTest (d2 uGt (dArgs aLen (dCons (d2 uIx (dVar 0) (dC (.int 0))) (dNil))) (dC (.int 0))))) (sAsg (dMeth0 .list mPop (d2 uIx (dVar 0) (dC (.int 0)))) (gSub (dVar 0) (dC (.int 2)))) (sNext)) (sSeq (sIf (dTest (d2 uGt (d2 uIx (dVar 0) (dC (.int 2))) (dC (.int 0)))) (sSeq (sAsg (d2 uMod (dArgs aInt (dCons (d2 uIx (dVar 0) (dC (.int 2))) (dNil))) (dVar 1)) (gName 2)) (sSeq (sAsg (d2 uDiv (d2 uIx (dVar 0) (dC (.int 2))) (dVar 1)) (gSub (dVar 0) (dC (.int 2)))) (sRet (dVar 2)))) (sNext)) (sSeq (sAsg (d2 uMod (dArgs aInt (dCons (d2 uAdd (d2 uMul (d2 uIx (dVar 0) (dC (.int 1))) (dC (.int 52361))) (dC (.int 6101))) (dNil))) (dC (.int 2147483563))) (gSub (dVar 0) (dC (.int 1)))) (sRet (d2 uMod (dArgs aInt (dCons (d2 uDiv (d2 uIx (dVar 0) (dC (.int 1))) (dC (.int 31))) (dNil))) (dVar 1))))))
def p__law_spend : Pr := prBody 2 1 b__law_spend
/-- slots: 0 purse, 1 row -/
def b__law_one : DS := sRet (d2 uIx (dVar 1) (dCall p__law_spend (dCons (dVar 0) (dCons (dArgs aLen (dCons (dVar 1) (dNil))) (dNil)))))
def p__law_one : Pr := prBody 2 0 b__law_one
/-- slots: 0 told, 1 due, 2 rest, 3 left, 4 right, 5 at -/
def b__law_same : DS := sSeq (sAsg (dLst (dCons (dTup (dCons (dVar 0) (dCons (dVar 1) (dNil)))) (dNil))) (gName 2)) (sSeq (sWhile (dTest (d2 uGt (dArgs aLen (dCons (dVar 2) (dNil))) (dC (.int 0)))) (sSeq (sAsg (dMeth0 .list mPop (dVar 2)) (gTup [3, 4])) (sSeq (sIf (dOrT (dTest (d2 uNe (dIsi .ttuple (dVar 3)) (dIsi .ttuple (dVar 4)))) (dTest (d2 uNe (d2 uIs (dVar 3) (dC .non)) (d2 uIs (dVar 4) (dC .non))))) (sRet (dC (.bl false))) (sNext)) (sIf (dTest (dIsi .ttuple (dVar 4))) (sSeq (sIf (dTest (d2 uNe (dArgs aLen (dCons (dVar 3) (dNil))) (dArgs aLen (dCons (dVar 4) (dNil))))) (sRet (dC (.bl false))) (sNext)) (sAsg (d2 uAdd (dVar 2) (dLc (wRng1 (dArgs aLen (dCons (dVar 4) (dNil)))) (gName 5) (tYes) (dTup (dCons (d2 uIx (dVar 3) (dVar 5)) (dCons (d2 uIx (dVar 4) (dVar 5)) (dNil)))) [5])) (gName 2))) (sIf (dOrT (dTest (d2 uNe (dIsi .tstr (dVar 3)) (dIsi .tstr (dVar 4)))) (dTest (d2 uNe (dIsi .tint (dVar 3)) (dIsi .tint (dVar 4))))) (sRet (dC (.bl false))) (sIf (dOrT (dTest (d2 uNe (dIsi .tbool (dVar 3)) (dIsi .tbool (dVar 4)))) (dTest (d2 uNe (dVar 3) (dVar 4)))) (sRet (dC (.bl false))) (sNext))))))) (sRet (dC (.bl true))))
def p__law_same : Pr := prBody 2 4 b__law_same
/-- slots: 0 numbers, 1 told, 2 number, 3 one -/
def b__law_common : DS := sSeq (sAsg (dC (.int 0)) (gName 1)) (sSeq (sFor (wSeq (dVar 0)) (gName 2) (sSeq (sAsg (dVar 2) (gName 3)) (sWhile (dTest (d2 uGt (dVar 3) (dC (.int 0)))) (sPar 3 1 (d2 uMod (dArgs aInt (dCons (dVar 1) (dNil))) (dVar 3)) (dVar 3))))) (sRet (dVar 1)))
def p__law_common : Pr := prBody 1 3 b__law_common
/-- slots: 0 purse, 1 many, 2 one, 3 other, 4 habit, 5 lone, 6 told, 7 at, 8 common, 9 weight -/
def b__law_die : DS := sSeq (sAsg (d2 uAdd (dC (.int 2)) (dCall p__law_spend (dCons (dVar 0) (dCons (dC (.int 4)) (dNil))))) (gName 1)) (sSeq (sAsg (d2 uAdd (dC (.int 1)) (dCall p__law_spend (dCons (dVar 0) (dCons (dC (.int 5)) (dNil))))) (gName 2)) (sSeq (sAsg (d2 uAdd (dC (.int 1)) (dCall p__law_spend (dCons (dVar 0) (dCons (dC (.int 5)) (dNil))))) (gName 3)) (sSeq (sAsg (dCall p__law_spend (dCons (dVar 0) (dCons (dC (.int 4)) (dNil)))) (gName 4)) (sSeq (sAsg (dCall p__law_spend (dCons (dVar 0) (dCons (dVar 1) (dNil)))) (gName 5)) (sSeq (sAsg (dLst (dNil)) (gName 6)) (sSeq (sFor (wRng1 (dVar 1)) (gName 7) (sDrop (dMeth .list mAppend (dVar 6) (dCons (d2 uIx (dLst (dCons (dIf (dTest (d2 uEq (dVar 7) (dVar 5))) (dVar 3) (dVar 2)) (dCons (dIf (dTest (d2 uEq (dVar 7) (dVar 5))) (dVar 2) (dVar 3)) (dCons (dVar 2) (dCons (dCall p__law_one (dCons (dVar 0) (dCons (dLst (dCons (dVar 2) (dCons (dVar 3) (dNil)))) (dNil)))) (dNil)))))) (dVar 4)) dNil)))) (sSeq (sAsg (dCall p__law_common (dCons (dVar 6) (dNil))) (gName 8)) (sRet (dArgs aTuple (dCons (dLc (wSeq (dVar 6)) (gName 9) (tYes) (d2 uDiv (dVar 9) (dVar 8)) [9]) (dNil)))))))))))
def p__law_die : Pr := prBody 1 9 b__law_die
/-- slots: 0 weights, 1 common, 2 told, 3 at, 4 weight -/
def b__law_due : DS := sSeq (sAsg (dCall p__law_common (dCons (dVar 0) (dNil))) (gName 1)) (sSeq (sAsg (dArgs aTuple (dCons (dLc (wSeq (dVar 0)) (gName 4) (tYes) (d2 uDiv (dVar 4) (dVar 1)) [4]) (dNil))) (gName 2)) (sSeq (sFor (wRng1 (dArgs aLen (dCons (dVar 2) (dNil)))) (gName 3) (sIf (dTest (d2 uGt (d2 uIx (dVar 2) (dVar 3)) (dC (.int 5)))) (sRet (dTup (dCons (dC (.str "bad")) (dCons (dVar 3) (dCons (dC (.str "weight")) (dNil)))))) (sNext))) (sRet (dIf (dTest (d2 uGt (d1 uLenSet (dVar 2)) (dC (.int 2)))) (dTup (dCons (dC (.str "bad")) (dCons (d1 uNeg (dC (.int 1))) (dCons (dC (.str "sizes")) (dNil))))) (dTup (dCons (dC (.str "told")) (dCons (dVar 2) (dNil))))))))
def p__law_due : Pr := prBody 1 4 b__law_due
/-- slots: 0 weights, 1 e -/
def b__law_told : DS := sTry isaT (sRet (dTup (dCons (dC (.str "told")) (dCons (dCall p_lowest_die (dCons (dVar 0) (dNil))) (dNil))))) [("BadDie", some 1, fun a d => sRet (dTup (dCons (dC (.str "bad")) (dCons (dFld a d "at" (dVar 1)) (dCons (dFld a d "word" (dVar 1)) (dNil)))))), ("ThrowError", none, fun a d => sRet (dTup (dCons (dC (.str "other")) (dNil))))]
def p__law_told : Pr := prBody 1 1 b__law_told
/-- slots: 0 purse, 1 die, 2 times, 3 weights, 4 kind, 5 weight, 6 at -/
def b__law_weights : DS := sSeq (sAsg (d2 uAdd (dC (.int 1)) (dCall p__law_spend (dCons (dVar 0) (dCons (dC (.int 200)) (dNil))))) (gName 2)) (sSeq (sAsg (dLc (wSeq (dVar 1)) (gName 5) (tYes) (d2 uMul (dVar 5) (dVar 2)) [5]) (gName 3)) (sSeq (sAsg (dCall p__law_spend (dCons (dVar 0) (dCons (dC (.int 4)) (dNil)))) (gName 4)) (sSeq (sIf (dTest (d2 uEq (dVar 4) (dC (.int 1)))) (sAsg (d2 uAdd (dC (.int 1)) (dCall p__law_spend (dCons (dVar 0) (dCons (dC (.int 1000)) (dNil))))) (gSub (dVar 3) (dCall p__law_spend (dCons (dVar 0) (dCons (dArgs aLen (dCons (dVar 3) (dNil))) (dNil)))))) (sNext)) (sSeq (sIf (dTest (d2 uEq (dVar 4) (dC (.int 2)))) (sAsg (d2 uMul (dVar 2) (d2 uAdd (dC (.int 1)) (dCall p__law_spend (dCons (dVar 0) (dCons (dC (.int 5)) (dNil)))))) (gSub (dVar 3) (dCall p__law_spend (dCons (dVar 0) (dCons (dArgs aLen (dCons (dVar 3) (dNil))) (dNil)))))) (sNext)) (sSeq (sIf (dTest (d2 uEq (dVar 4) (dC (.int 3)))) (sAsg (dLc (wSeq (dVar 1)) (gName 6) (tYes) (d2 uAdd (dC (.int 1)) (dCall p__law_spend (dCons (dVar 0) (dCons (dCall p__law_one (dCons (dVar 0) (dCons (dLst (dCons (dC (.int 3)) (dCons (dC (.int 7)) (dCons (dC (.int 1000)) (dNil))))) (dNil)))) (dNil))))) [6]) (gName 3)) (sNext)) (sRet (dArgs aTuple (dCons (dVar 3) (dNil)))))))))
def p__law_weights : Pr := prBody 2 5 b__law_weights
/-- slots: 0 purse, 1 die, 2 many, 3 turned, 4 left, 5 places, 6 mixed, 7 at -/
def b__law_asked : DS := sSeq (sAsg (dCall p__law_one (dCons (dVar 0) (dCons (dLst (dCons (dC (.int 0)) (dCons (dC (.int 1)) (dCons (d2 uSub (dArgs aLen (dCons (dVar 1) (dNil))) (dC (.int 1))) (dCons (dArgs aLen (dCons (dVar 1) (dNil))) (dCons (dCall p__law_spend (dCons (dVar 0) (dCons (dC (.int 100)) (dNil)))) (dCons (d2 uAdd (d2 uPow (dC (.int 10)) (dC (.int 60))) (dCall p__law_spend (dCons (dVar 0) (dCons (dC (.int 5)) (dNil))))) (dNil)))))))) (dNil)))) (gName 2)) (sSeq (sAsg (dArgs aTuple (dCons (dLc (wRng1 (dArgs aLen (dCons (dVar 1) (dNil)))) (gName 7) (tYes) (d2 uIx (dVar 1) (d2 uMod (dArgs aInt (dCons (d2 uAdd (dVar 7) (dVar 2)) (dNil))) (dArgs aLen (dCons (dVar 1) (dNil))))) [7]) (dNil))) (gName 3)) (sSeq (sIf (dOrT (dNotT (dTest (dCall p__law_same (dCons (dCall p_turned_die (dCons (dVar 1) (dCons (dVar 2) (dNil)))) (dCons (dVar 3) (dNil)))))) (dNotT (dTest (dCall p__law_same (dCons (dCall p_die_form (dCons (dCall p_turned_die (dCons (dVar 1) (dCons (dArgs aLen (dCons (dVar 1) (dNil))) (dNil)))) (dNil))) (dCons (dCall p_die_form (dCons (dVar 1) (dNil))) (dNil))))))) (sRet (dC (.bl false))) (sNext)) (sSeq (sAsg (d1 uListR (dArgs aLen (dCons (dVar 1) (dNil)))) (gName 4)) (sSeq (sAsg (dArgs aTuple (dCons (dLc (wSeq (dVar 1)) (gName 7) (tYes) (dMeth .list mPop (dVar 4) (dCons (dCall p__law_spend (dCons (dVar 0) (dCons (dArgs aLen (dCons (dVar 4) (dNil))) (dNil)))) dNil)) [7]) (dNil))) (gName 5)) (sSeq (sAsg (d2 uMul (dLst (dCons (dC (.int 0)) (dNil))) (dArgs aLen (dCons (dVar 1) (dNil)))) (gName 6)) (sSeq (sFor (wRng1 (dArgs aLen (dCons (dVar 1) (dNil)))) (gName 7) (sAsg (d2 uIx (dVar 1) (dVar 7)) (gSub (dVar 6) (d2 uIx (dVar 5) (dVar 7))))) (sRet (dCall p__law_same (dCons (dTup (dCons (dCall p_mixed_die (dCons (dVar 1) (dCons (dVar 5) (dNil)))) (dCons (dCall p_die_total (dCons (dVar 3) (dNil))) (dNil)))) (dCons (dTup (dCons (dArgs aTuple (dCons (dVar 6) (dNil))) (dCons (dArgs aSum (dCons (dVar 1) (dNil))) (dNil)))) (dNil)))))))))))
def p__law_asked : Pr := prBody 2 6 b__law_asked
/-- slots: 0 script, 1 purse, 2 lap, 3 die, 4 turn, 5 times, 6 weights, 7 weight -/
def b_law : DS := sSeq (sAsg (dCall p__law_purse (dCons (dVar 0) (dNil))) (gName 1)) (sSeq (sIf (dNotT (dTest (dCall p__law_same (dCons (dTup (dCons (dCall p_lowest_die (dCons (dTup (dCons (dC (.int 30)) (dCons (dC (.int 20)) (dNil)))) (dNil))) (dCons (dCall p_turned_die (dCons (dTup (dCons (dC (.int 1)) (dCons (dC (.int 2)) (dCons (dC (.int 2)) (dNil))))) (dCons (dC (.int 2)) (dNil)))) (dCons (dCall p_mixed_die (dCons (dTup (dCons (dC (.int 1)) (dCons (dC (.int 2)) (dCons (dC (.int 2)) (dNil))))) (dCons (dTup (dCons (dC (.int 2)) (dCons (dC (.int 0)) (dCons (dC (.int 1)) (dNil))))) (dNil)))) (dNil))))) (dCons (dTup (dCons (dTup (dCons (dC (.int 3)) (dCons (dC (.int 2)) (dNil)))) (dCons (dTup (dCons (dC (.int 2)) (dCons (dC (.int 1)) (dCons (dC (.int 2)) (dNil))))) (dCons (dTup (dCons (dC (.int 2)) (dCons (dC (.int 2)) (dCons (dC (.int 1)) (dNil))))) (dNil))))) (dNil)))))) (sRet (dC (.bl false))) (sNext)) (sSeq (sFor (wRng1 (dC (.int 4))) (gName 2) (sSeq (sAsg (dCall p__law_die (dCons (dVar 1) (dNil))) (gName 3)) (sSeq (sIf (dNotT (dTest (dCall p__law_asked (dCons (dVar 1) (dCons (dVar 3) (dNil)))))) (sRet (dC (.bl false))) (sNext)) (sSeq (sFor (wRng1 (dC (.int 3))) (gName 4) (sSeq (sAsg (dCall p__law_weights (dCons (dVar 1) (dCons (dVar 3) (dNil)))) (gName 6)) (sIf (dNotT (dTest (dCall p__law_same (dCons (dCall p__law_told (dCons (dVar 6) (dNil))) (dCons (dCall p__law_due (dCons (dVar 6) (dNil))) (dNil)))))) (sRet (dC (.bl false))) (sNext)))) (sSeq (sAsg (d2 uAdd (dC (.int 1)) (dCall p__law_spend (dCons (dVar 1) (dCons (dC (.int 100)) (dNil))))) (gName 5)) (sIf (dOrT (dNotT (dTest (dCall p__law_same (dCons (dCall p__law_told (dCons (dArgs aTuple (dCons (dLc (wSeq (dVar 3)) (gName 7) (tYes) (d2 uMul (dVar 7) (dVar 5)) [7]) (dNil))) (dNil))) (dCons (dTup (dCons (dC (.str "told")) (dCons (dVar 3) (dNil)))) (dNil)))))) (dTest (d2 uNe (d2 uIx (dCall p__law_told (dCons (dTup (dCons (dC (.int 7)) (dCons (d2 uAdd (d2 uMul (dVar 5) (dC (.int 7))) (d2 uMul (dC (.int 7)) (dC (.int 5)))) (dNil)))) (dNil))) (dC (.int 0))) (dC (.str "bad"))))) (sRet (dC (.bl false))) (sNext))))))) (sRet (dC (.bl true)))))
def p_law : Pr := prBody 1 7 b_law
end L_throwntrue_k01_die_edits
set_option Elab.async false
set_option linter.all false
set_option maxRecDepth 100000
set_option maxHeartbeats 4000000
namespace L_throwntrue_k01_die_edits
open PySem PySem.Spec PyProof.Rows L2 PD
def top (i : Nat) : Stmt := PySem.Challenge.pw_throwntrue_k01_die_edits.main.body.getD i (.Pass ⟨0, 0, 0, 0⟩)
abbrev s_is_whole : Stmt := top 5
abbrev N_is_whole : List Str := ["value"]
theorem sc_is_whole : FnScope N_is_whole ["value"] (defScope s_is_whole) := ⟨rfl, rfl, rfl, by decide +kernel, rfl, by decide +kernel, by decide +kernel⟩
abbrev s_is_between : Stmt := top 6
abbrev N_is_between : List Str := ["value", "least", "most"]
theorem sc_is_between : FnScope N_is_between ["value", "least", "most"] (defScope s_is_between) := ⟨rfl, rfl, rfl, by decide +kernel, rfl, by decide +kernel, by decide +kernel⟩
abbrev s_common_factor : Stmt := top 11
abbrev N_common_factor : List Str := ["numbers", "common", "number"]
theorem sc_common_factor : FnScope N_common_factor ["numbers"] (defScope s_common_factor) := ⟨rfl, rfl, rfl, by decide +kernel, rfl, by decide +kernel, by decide +kernel⟩
abbrev s_check_die : Stmt := top 12
abbrev N_check_die : List Str := ["thing", "at", "weight"]
theorem sc_check_die : FnScope N_check_die ["thing"] (defScope s_check_die) := ⟨rfl, rfl, rfl, by decide +kernel, rfl, by decide +kernel, by decide +kernel⟩
abbrev s_lowest_die : Stmt := top 14
abbrev N_lowest_die : List Str := ["weights", "common", "die", "weight"]
theorem sc_lowest_die : FnScope N_lowest_die ["weights"] (defScope s_lowest_die) := ⟨rfl, rfl, rfl, by decide +kernel, rfl, by decide +kernel, by decide +kernel⟩
abbrev s_turned_die : Stmt := top 15
abbrev N_turned_die : List Str := ["die", "many", "cut"]
theorem sc_turned_die : FnScope N_turned_die ["die", "many"] (defScope s_turned_die) := ⟨rfl, rfl, rfl, by decide +kernel, rfl, by decide +kernel, by decide +kernel⟩
abbrev s_mixed_die : Stmt := top 16
abbrev N_mixed_die : List Str := ["die", "places", "weights", "face", "place"]
theorem sc_mixed_die : FnScope N_mixed_die ["die", "places"] (defScope s_mixed_die) := ⟨rfl, rfl, rfl, by decide +kernel, rfl, by decide +kernel, by decide +kernel⟩
abbrev s_die_total : Stmt := top 18
abbrev N_die_total : List Str := ["die"]
theorem sc_die_total : FnScope N_die_total ["die"] (defScope s_die_total) := ⟨rfl, rfl, rfl, by decide +kernel, rfl, by decide +kernel, by decide +kernel⟩
abbrev s_light_faces : Stmt := top 19
abbrev N_light_faces : List Str := ["die", "face", "weight"]
theorem sc_light_faces : FnScope N_light_faces ["die"] (defScope s_light_faces) := ⟨rfl, rfl, rfl, by decide +kernel, rfl, by decide +kernel, by decide +kernel⟩
abbrev s_die_form : Stmt := top 20
abbrev N_die_form : List Str := ["die", "light", "weight"]
theorem sc_die_form : FnScope N_die_form ["die"] (defScope s_die_form) := ⟨rfl, rfl, rfl, by decide +kernel, rfl, by decide +kernel, by decide +kernel⟩
abbrev s__law_purse : Stmt := top 22
abbrev N__law_purse : List Str := ["script", "worth", "deep", "cell", "plain"]
theorem sc__law_purse : FnScope N__law_purse ["script"] (defScope s__law_purse) := ⟨rfl, rfl, rfl, by decide +kernel, rfl, by decide +kernel, by decide +kernel⟩
abbrev s__law_spend : Stmt := top 23
abbrev N__law_spend : List Str := ["purse", "many", "told"]
theorem sc__law_spend : FnScope N__law_spend ["purse", "many"] (defScope s__law_spend) := ⟨rfl, rfl, rfl, by decide +kernel, rfl, by decide +kernel, by decide +kernel⟩
abbrev s__law_one : Stmt := top 24
abbrev N__law_one : List Str := ["purse", "row"]
theorem sc__law_one : FnScope N__law_one ["purse", "row"] (defScope s__law_one) := ⟨rfl, rfl, rfl, by decide +kernel, rfl, by decide +kernel, by decide +kernel⟩
abbrev s__law_same : Stmt := top 25
abbrev N__law_same : List Str := ["told", "due", "rest", "left", "right", "at"]
theorem sc__law_same : FnScope N__law_same ["told", "due"] (defScope s__law_same) := ⟨rfl, rfl, rfl, by decide +kernel, rfl, by decide +kernel, by decide +kernel⟩
abbrev s__law_common : Stmt := top 26
abbrev N__law_common : List Str := ["numbers", "told", "number", "one"]
theorem sc__law_common : FnScope N__law_common ["numbers"] (defScope s__law_common) := ⟨rfl, rfl, rfl, by decide +kernel, rfl, by decide +kernel, by decide +kernel⟩
abbrev s__law_die : Stmt := top 27
abbrev N__law_die : List Str := ["purse", "many", "one", "other", "habit", "lone", "told", "at", "common", "weight"]
theorem sc__law_die : FnScope N__law_die ["purse"] (defScope s__law_die) := ⟨rfl, rfl, rfl, by decide +kernel, rfl, by decide +kernel, by decide +kernel⟩
abbrev s__law_due : Stmt := top 28
abbrev N__law_due : List Str := ["weights", "common", "told", "at", "weight"]
theorem sc__law_due : FnScope N__law_due ["weights"] (defScope s__law_due) := ⟨rfl, rfl, rfl, by decide +kernel, rfl, by decide +kernel, by decide +kernel⟩
abbrev s__law_told : Stmt := top 29
abbrev N__law_told : List Str := ["weights", "e"]
theorem sc__law_told : FnScope N__law_told ["weights"] (defScope s__law_told) := ⟨rfl, rfl, rfl, by decide +kernel, rfl, by decide +kernel, by decide +kernel⟩
abbrev s__law_weights : Stmt := top 30
abbrev N__law_weights : List Str := ["purse", "die", "times", "weights", "kind", "weight", "at"]
theorem sc__law_weights : FnScope N__law_weights ["purse", "die"] (defScope s__law_weights) := ⟨rfl, rfl, rfl, by decide +kernel, rfl, by decide +kernel, by decide +kernel⟩
abbrev s__law_asked : Stmt := top 31
abbrev N__law_asked : List Str := ["purse", "die", "many", "turned", "left", "places", "mixed", "at"]
theorem sc__law_asked : FnScope N__law_asked ["purse", "die"] (defScope s__law_asked) := ⟨rfl, rfl, rfl, by decide +kernel, rfl, by decide +kernel, by decide +kernel⟩
abbrev s_law : Stmt := top 32
abbrev N_law : List Str := ["script", "purse", "lap", "die", "turn", "times", "weights", "weight"]
theorem sc_law : FnScope N_law ["script"] (defScope s_law) := ⟨rfl, rfl, rfl, by decide +kernel, rfl, by decide +kernel, by decide +kernel⟩
abbrev si_BadDie : Stmt := inClass (top 3) 0
structure Tx (P : Program) (K : PySem.W.Frag) (mg : Str → Option Value) where
  a_is_whole : Addr
  d_is_whole : FuncData
  F_is_whole : Fun K "is_whole" "is_whole" s_is_whole a_is_whole d_is_whole
  m_is_whole : mg "is_whole" = some (.ref a_is_whole)
  b_is_whole : Binds K d_is_whole ["value"] []
  a_is_between : Addr
  d_is_between : FuncData
  F_is_between : Fun K "is_between" "is_between" s_is_between a_is_between d_is_between
  m_is_between : mg "is_between" = some (.ref a_is_between)
  b_is_between : Binds K d_is_between ["value", "least", "most"] []
  a_common_factor : Addr
  d_common_factor : FuncData
  F_common_factor : Fun K "common_factor" "common_factor" s_common_factor a_common_factor d_common_factor
  m_common_factor : mg "common_factor" = some (.ref a_common_factor)
  b_common_factor : Binds K d_common_factor ["numbers"] []
  a_check_die : Addr
  d_check_die : FuncData
  F_check_die : Fun K "check_die" "check_die" s_check_die a_check_die d_check_die
  m_check_die : mg "check_die" = some (.ref a_check_die)
  b_check_die : Binds K d_check_die ["thing"] []
  a_lowest_die : Addr
  d_lowest_die : FuncData
  F_lowest_die : Fun K "lowest_die" "lowest_die" s_lowest_die a_lowest_die d_lowest_die
  m_lowest_die : mg "lowest_die" = some (.ref a_lowest_die)
  b_lowest_die : Binds K d_lowest_die ["weights"] []
  a_turned_die : Addr
  d_turned_die : FuncData
  F_turned_die : Fun K "turned_die" "turned_die" s_turned_die a_turned_die d_turned_die
  m_turned_die : mg "turned_die" = some (.ref a_turned_die)
  b_turned_die : Binds K d_turned_die ["die", "many"] []
  a_mixed_die : Addr
  d_mixed_die : FuncData
  F_mixed_die : Fun K "mixed_die" "mixed_die" s_mixed_die a_mixed_die d_mixed_die
  m_mixed_die : mg "mixed_die" = some (.ref a_mixed_die)
  b_mixed_die : Binds K d_mixed_die ["die", "places"] []
  a_die_total : Addr
  d_die_total : FuncData
  F_die_total : Fun K "die_total" "die_total" s_die_total a_die_total d_die_total
  m_die_total : mg "die_total" = some (.ref a_die_total)
  b_die_total : Binds K d_die_total ["die"] []
  a_light_faces : Addr
  d_light_faces : FuncData
  F_light_faces : Fun K "light_faces" "light_faces" s_light_faces a_light_faces d_light_faces
  m_light_faces : mg "light_faces" = some (.ref a_light_faces)
  b_light_faces : Binds K d_light_faces ["die"] []
  a_die_form : Addr
  d_die_form : FuncData
  F_die_form : Fun K "die_form" "die_form" s_die_form a_die_form d_die_form
  m_die_form : mg "die_form" = some (.ref a_die_form)
  b_die_form : Binds K d_die_form ["die"] []
  a__law_purse : Addr
  d__law_purse : FuncData
  F__law_purse : Fun K "_law_purse" "_law_purse" s__law_purse a__law_purse d__law_purse
  m__law_purse : mg "_law_purse" = some (.ref a__law_purse)
  b__law_purse : Binds K d__law_purse ["script"] []
  a__law_spend : Addr
  d__law_spend : FuncData
  F__law_spend : Fun K "_law_spend" "_law_spend" s__law_spend a__law_spend d__law_spend
  m__law_spend : mg "_law_spend" = some (.ref a__law_spend)
  b__law_spend : Binds K d__law_spend ["purse", "many"] []
  a__law_one : Addr
  d__law_one : FuncData
  F__law_one : Fun K "_law_one" "_law_one" s__law_one a__law_one d__law_one
  m__law_one : mg "_law_one" = some (.ref a__law_one)
  b__law_one : Binds K d__law_one ["purse", "row"] []
  a__law_same : Addr
  d__law_same : FuncData
  F__law_same : Fun K "_law_same" "_law_same" s__law_same a__law_same d__law_same
  m__law_same : mg "_law_same" = some (.ref a__law_same)
  b__law_same : Binds K d__law_same ["told", "due"] []
  a__law_common : Addr
  d__law_common : FuncData
  F__law_common : Fun K "_law_common" "_law_common" s__law_common a__law_common d__law_common
  m__law_common : mg "_law_common" = some (.ref a__law_common)
  b__law_common : Binds K d__law_common ["numbers"] []
  a__law_die : Addr
  d__law_die : FuncData
  F__law_die : Fun K "_law_die" "_law_die" s__law_die a__law_die d__law_die
  m__law_die : mg "_law_die" = some (.ref a__law_die)
  b__law_die : Binds K d__law_die ["purse"] []
  a__law_due : Addr
  d__law_due : FuncData
  F__law_due : Fun K "_law_due" "_law_due" s__law_due a__law_due d__law_due
  m__law_due : mg "_law_due" = some (.ref a__law_due)
  b__law_due : Binds K d__law_due ["weights"] []
  a__law_told : Addr
  d__law_told : FuncData
  F__law_told : Fun K "_law_told" "_law_told" s__law_told a__law_told d__law_told
  m__law_told : mg "_law_told" = some (.ref a__law_told)
  b__law_told : Binds K d__law_told ["weights"] []
  a__law_weights : Addr
  d__law_weights : FuncData
  F__law_weights : Fun K "_law_weights" "_law_weights" s__law_weights a__law_weights d__law_weights
  m__law_weights : mg "_law_weights" = some (.ref a__law_weights)
  b__law_weights : Binds K d__law_weights ["purse", "die"] []
  a__law_asked : Addr
  d__law_asked : FuncData
  F__law_asked : Fun K "_law_asked" "_law_asked" s__law_asked a__law_asked d__law_asked
  m__law_asked : mg "_law_asked" = some (.ref a__law_asked)
  b__law_asked : Binds K d__law_asked ["purse", "die"] []
  a_law : Addr
  d_law : FuncData
  F_law : Fun K "law" "law" s_law a_law d_law
  m_law : mg "law" = some (.ref a_law)
  b_law : Binds K d_law ["script"] []
  n_abs : mg "abs" = none
  n_bool : mg "bool" = none
  n_enumerate : mg "enumerate" = none
  n_int : mg "int" = none
  n_isinstance : mg "isinstance" = none
  n_len : mg "len" = none
  n_list : mg "list" = none
  n_range : mg "range" = none
  n_set : mg "set" = none
  n_str : mg "str" = none
  n_sum : mg "sum" = none
  n_tuple : mg "tuple" = none
  i_gcd : mg "gcd" = some (.builtin "math.gcd")
  t_LEAST_FACES : Tok
  g_LEAST_FACES : mg "LEAST_FACES" = some (.int 2 t_LEAST_FACES)
  t_MOST_FACES : Tok
  g_MOST_FACES : mg "MOST_FACES" = some (.int 5 t_MOST_FACES)
  t_MOST_WEIGHT : Tok
  g_MOST_WEIGHT : mg "MOST_WEIGHT" = some (.int 5 t_MOST_WEIGHT)
  c_ThrowError : Addr
  gC_ThrowError : mg "ThrowError" = some (.ref c_ThrowError)
  xf_ThrowError : XF K ["at", "word"] c_ThrowError
  c_BadDie : Addr
  gC_BadDie : mg "BadDie" = some (.ref c_BadDie)
  xf_BadDie : XF K ["at", "word"] c_BadDie
  isa_ThrowError_ok : IsaOk K mg ["at", "word"] "ThrowError" c_ThrowError isaL
  isa_BadDie_ok : IsaOk K mg ["at", "word"] "BadDie" c_BadDie isaL
  i_BadDie : Addr
  fd_BadDie : FuncData
  oT_BadDie : OexC K c_BadDie
  ii_BadDie : PySem.W.findIn K (.ref c_BadDie) "__init__" = some (some (.ref i_BadDie))
  it_BadDie : PySem.W.typeIn K (.ref i_BadDie) = some (.type "function")
  ri_BadDie : ∀ (w : World) (base : Heap), FnOk P w K mg base (L2.CX P w) 1 i_BadDie fd_BadDie ["self", "at", "word"] (spIx c_BadDie ["at", "word"])
  ib_BadDie : Binds K fd_BadDie ["self", "at", "word"] []
section
variable {P : Program} {w : World} {K : PySem.W.Frag} {mg : Str → Option Value} {base : Heap}
theorem ok_is_whole (T : Tx P K mg) : FnOk P w K mg base (L2.CX P w) 1 T.a_is_whole T.d_is_whole ["value"] (spL K mg p_is_whole) := fn_ok (body := b_is_whole) T.F_is_whole sc_is_whole fun cdv A outer s H E hr =>
  dss_one (ds_ret (de_and (de_isi .tint (by rfl) T.n_isinstance (by rfl) T.n_int bb_int (de_var 0)) (de_one (de_not (de_isi .tbool (by rfl) T.n_isinstance (by rfl) T.n_bool bb_bool (de_var 0))))))
theorem ok_is_between (T : Tx P K mg) : FnOk P w K mg base (L2.CX P w) 2 T.a_is_between T.d_is_between ["value", "least", "most"] (spL K mg p_is_between) := fn_ok (body := b_is_between) T.F_is_between sc_is_between fun cdv A outer s H E hr =>
  dss_one (ds_ret (de_and (de_call (ok_is_whole T) prBody_mono (takes_of rfl rfl rfl rfl) (hr.mono (by decide)) (by rfl) T.m_is_whole T.F_is_whole.kp T.b_is_whole (da_cons (de_var 0) (da_nil))) (de_one (de_ck2 ck_le ck_le (de_var 1) (de_var 0) (de_var 2)))))
theorem ok_common_factor (T : Tx P K mg) : FnOk P w K mg base (L2.CX P w) 1 T.a_common_factor T.d_common_factor ["numbers"] (spL K mg p_common_factor) := fn_ok (body := b_common_factor) T.F_common_factor sc_common_factor fun cdv A outer s H E hr =>
  dss_cons (ds_set (i := 1) sc_common_factor.nd rfl (by first | exact Or.inl rfl | exact Or.inr rfl) (de_int)) (dss_cons (ds_for (passes_of rfl) rfl (di_seq (de_var 0)) (dg_name (i := 2) sc_common_factor.nd rfl (by first | exact Or.inl rfl | exact Or.inr rfl)) (dss_one (ds_set (i := 1) sc_common_factor.nd rfl (by first | exact Or.inl rfl | exact Or.inr rfl) (de_caM ca_gcd (by rfl) T.i_gcd (da_cons (de_var 1) (da_cons (de_var 2) (da_nil))))))) (dss_one (ds_ret (de_var 1))))
theorem ok_check_die (T : Tx P K mg) : FnOk P w K mg base (L2.CX P w) 3 T.a_check_die T.d_check_die ["thing"] (spL K mg p_check_die) := fn_ok (body := b_check_die) T.F_check_die sc_check_die fun cdv A outer s H E hr =>
  dss_cons (ds_if (dt_not (dt_val (de_isi .ttuple (by rfl) T.n_isinstance (by rfl) T.n_tuple bb_tuple (de_var 0)))) (dss_one (ds_raise rfl (takes_of rfl rfl rfl rfl) T.oT_BadDie T.ii_BadDie T.it_BadDie (T.ri_BadDie _ _) (hr.mono (by decide)) T.ib_BadDie (by rfl) T.gC_BadDie (by decide) (da_cons (de_neg (de_int)) (da_cons (de_str) (da_nil))))) (dss_nil)) (dss_cons (ds_if (dt_not (dt_ck2 ck_le ck_le (de_globI (by rfl) T.g_LEAST_FACES) (de_ca ca_len (by rfl) T.n_len bb_len (da_cons (de_var 0) (da_nil))) (de_globI (by rfl) T.g_MOST_FACES))) (dss_one (ds_raise rfl (takes_of rfl rfl rfl rfl) T.oT_BadDie T.ii_BadDie T.it_BadDie (T.ri_BadDie _ _) (hr.mono (by decide)) T.ib_BadDie (by rfl) T.gC_BadDie (by decide) (da_cons (de_neg (de_int)) (da_cons (de_str) (da_nil))))) (dss_nil)) (dss_cons (ds_for (passes_of rfl) rfl (di_enum (by rfl) T.n_enumerate (de_var 0)) (dg_tup rfl sc_check_die.nd (.cons (i := 1) rfl (by first | exact Or.inl rfl | exact Or.inr rfl) (by first | exact Or.inl rfl | exact Or.inr rfl) rfl (.cons (i := 2) rfl (by first | exact Or.inl rfl | exact Or.inr rfl) (by first | exact Or.inl rfl | exact Or.inr rfl) rfl (.nil)))) (dss_one (ds_if (dt_not (dt_val (de_call (ok_is_between T) prBody_mono (takes_of rfl rfl rfl rfl) (hr.mono (by decide)) (by rfl) T.m_is_between T.F_is_between.kp T.b_is_between (da_cons (de_var 2) (da_cons (de_int) (da_cons (de_globI (by rfl) T.g_MOST_WEIGHT) (da_nil))))))) (dss_one (ds_raise rfl (takes_of rfl rfl rfl rfl) T.oT_BadDie T.ii_BadDie T.it_BadDie (T.ri_BadDie _ _) (hr.mono (by decide)) T.ib_BadDie (by rfl) T.gC_BadDie (by decide) (da_cons (de_var 1) (da_cons (de_str) (da_nil))))) (dss_nil)))) (dss_cons (ds_if (dt_ck ck_gt (de_lenSet (by rfl) T.n_len (by rfl) T.n_set (de_var 0)) (de_int) (nomark _)) (dss_one (ds_raise rfl (takes_of rfl rfl rfl rfl) T.oT_BadDie T.ii_BadDie T.it_BadDie (T.ri_BadDie _ _) (hr.mono (by decide)) T.ib_BadDie (by rfl) T.gC_BadDie (by decide) (da_cons (de_neg (de_int)) (da_cons (de_str) (da_nil))))) (dss_nil)) (dss_cons (ds_if (dt_ck ck_gt (de_call (ok_common_factor T) prBody_mono (takes_of rfl rfl rfl rfl) (hr.mono (by decide)) (by rfl) T.m_common_factor T.F_common_factor.kp T.b_common_factor (da_cons (de_var 0) (da_nil))) (de_int) (nomark _)) (dss_one (ds_raise rfl (takes_of rfl rfl rfl rfl) T.oT_BadDie T.ii_BadDie T.it_BadDie (T.ri_BadDie _ _) (hr.mono (by decide)) T.ib_BadDie (by rfl) T.gC_BadDie (by decide) (da_cons (de_neg (de_int)) (da_cons (de_str) (da_nil))))) (dss_nil)) (dss_one (ds_ret (de_ca (ca_sum rfl) (by rfl) T.n_sum bb_sum (da_cons (de_var 0) (da_nil)))))))))
theorem ok_lowest_die (T : Tx P K mg) : FnOk P w K mg base (L2.CX P w) 4 T.a_lowest_die T.d_lowest_die ["weights"] (spL K mg p_lowest_die) := fn_ok (body := b_lowest_die) T.F_lowest_die sc_lowest_die fun cdv A outer s H E hr =>
  dss_cons (ds_set (i := 1) sc_lowest_die.nd rfl (by first | exact Or.inl rfl | exact Or.inr rfl) (de_call (ok_common_factor T) prBody_mono (takes_of rfl rfl rfl rfl) (hr.mono (by decide)) (by rfl) T.m_common_factor T.F_common_factor.kp T.b_common_factor (da_cons (de_var 0) (da_nil)))) (dss_cons (ds_set (i := 2) sc_lowest_die.nd rfl (by first | exact Or.inl rfl | exact Or.inr rfl) (de_caT ca_tuple (by rfl) T.n_tuple bb_tuple (da_cons (de_lc1 rfl sc_lowest_die.nd (di_seq (de_var 0)) (blkOk_by (N := N_lowest_die) (sc := defScope s_lowest_die) (by decide +kernel)) (fun _ _ _ _ _ => pg_name (i := 3) sc_lowest_die.nd rfl (by first | exact Or.inl rfl | exact Or.inr rfl)) (fun _ _ _ _ _ => dts_nil) (fun _ _ _ _ _ => de_div (de_var 3) (de_var 1))) (da_nil)))) (dss_cons (ds_expr (de_call (ok_check_die T) prBody_mono (takes_of rfl rfl rfl rfl) (hr.mono (by decide)) (by rfl) T.m_check_die T.F_check_die.kp T.b_check_die (da_cons (de_var 2) (da_nil)))) (dss_one (ds_ret (de_var 2)))))
theorem ok_turned_die (T : Tx P K mg) : FnOk P w K mg base (L2.CX P w) 1 T.a_turned_die T.d_turned_die ["die", "many"] (spL K mg p_turned_die) := fn_ok (body := b_turned_die) T.F_turned_die sc_turned_die fun cdv A outer s H E hr =>
  dss_cons (ds_set (i := 2) sc_turned_die.nd rfl (by first | exact Or.inl rfl | exact Or.inr rfl) (de_mod (de_var 1) (de_ca ca_len (by rfl) T.n_len bb_len (da_cons (de_var 0) (da_nil))))) (dss_one (ds_ret (de_add (de_cut10 (de_var 0) (de_var 2)) (de_cut01 (de_var 0) (de_var 2)))))
theorem ok_mixed_die (T : Tx P K mg) : FnOk P w K mg base (L2.CX P w) 1 T.a_mixed_die T.d_mixed_die ["die", "places"] (spL K mg p_mixed_die) := fn_ok (body := b_mixed_die) T.F_mixed_die sc_mixed_die fun cdv A outer s H E hr =>
  dss_cons (ds_set (i := 2) sc_mixed_die.nd rfl (by first | exact Or.inl rfl | exact Or.inr rfl) (de_caT ca_list (by rfl) T.n_list bb_list (da_cons (de_var 0) (da_nil)))) (dss_cons (ds_for (passes_of rfl) rfl (di_enum (by rfl) T.n_enumerate (de_var 1)) (dg_tup rfl sc_mixed_die.nd (.cons (i := 3) rfl (by first | exact Or.inl rfl | exact Or.inr rfl) (by first | exact Or.inl rfl | exact Or.inr rfl) rfl (.cons (i := 4) rfl (by first | exact Or.inl rfl | exact Or.inr rfl) (by first | exact Or.inl rfl | exact Or.inr rfl) rfl (.nil)))) (dss_one (ds_asg (de_sub2 (de_var 0) (de_var 3)) (dg_sub (de_var 2) (de_var 4))))) (dss_one (ds_ret (de_caT ca_tuple (by rfl) T.n_tuple bb_tuple (da_cons (de_var 2) (da_nil))))))
theorem ok_die_total (T : Tx P K mg) : FnOk P w K mg base (L2.CX P w) 1 T.a_die_total T.d_die_total ["die"] (spL K mg p_die_total) := fn_ok (body := b_die_total) T.F_die_total sc_die_total fun cdv A outer s H E hr =>
  dss_one (ds_ret (de_ca (ca_sum rfl) (by rfl) T.n_sum bb_sum (da_cons (de_var 0) (da_nil))))
theorem ok_light_faces (T : Tx P K mg) : FnOk P w K mg base (L2.CX P w) 1 T.a_light_faces T.d_light_faces ["die"] (spL K mg p_light_faces) := fn_ok (body := b_light_faces) T.F_light_faces sc_light_faces fun cdv A outer s H E hr =>
  dss_one (ds_ret (de_caT ca_tuple (by rfl) T.n_tuple bb_tuple (da_cons (de_lcT [("face", 1), ("weight", 2)] rfl sc_light_faces.nd (di_enum (by rfl) T.n_enumerate (de_var 0)) (blkOk_by (N := N_light_faces) (sc := defScope s_light_faces) (by decide +kernel)) (fun _ _ _ _ _ => pg_tup rfl (nms_pgs sc_light_faces.nd (.cons (i := 1) rfl (by first | exact Or.inl rfl | exact Or.inr rfl) (by first | exact Or.inl rfl | exact Or.inr rfl) rfl (.cons (i := 2) rfl (by first | exact Or.inl rfl | exact Or.inr rfl) (by first | exact Or.inl rfl | exact Or.inr rfl) rfl (.nil))))) (fun _ _ _ _ _ => dts_one (dt_ck (ck_ne hr) (de_var 2) (de_sub2 (de_var 0) (de_int)) (nomark _))) (fun _ _ _ _ _ => de_var 1)) (da_nil))))
theorem ok_die_form (T : Tx P K mg) : FnOk P w K mg base (L2.CX P w) 2 T.a_die_form T.d_die_form ["die"] (spL K mg p_die_form) := fn_ok (body := b_die_form) T.F_die_form sc_die_form fun cdv A outer s H E hr =>
  dss_cons (ds_set (i := 1) sc_die_form.nd rfl (by first | exact Or.inl rfl | exact Or.inr rfl) (de_call (ok_light_faces T) prBody_mono (takes_of rfl rfl rfl rfl) (hr.mono (by decide)) (by rfl) T.m_light_faces T.F_light_faces.kp T.b_light_faces (da_cons (de_var 0) (da_nil)))) (dss_cons (ds_set (i := 2) sc_die_form.nd rfl (by first | exact Or.inl rfl | exact Or.inr rfl) (de_if (dt_ck ck_gt (de_ca ca_len (by rfl) T.n_len bb_len (da_cons (de_var 1) (da_nil))) (de_int) (nomark _)) (de_sub2 (de_var 0) (de_sub2 (de_var 1) (de_int))) (de_int))) (dss_one (ds_ret (de_tup (da_cons (de_sub2 (de_var 0) (de_int)) (da_cons (de_sub (de_ca ca_len (by rfl) T.n_len bb_len (da_cons (de_var 0) (da_nil))) (de_ca ca_len (by rfl) T.n_len bb_len (da_cons (de_var 1) (da_nil)))) (da_cons (de_var 2) (da_cons (de_ca ca_len (by rfl) T.n_len bb_len (da_cons (de_var 1) (da_nil))) (da_nil)))))))))
theorem ok__law_purse (T : Tx P K mg) : FnOk P w K mg base (L2.CX P w) 1 T.a__law_purse T.d__law_purse ["script"] (spL K mg p__law_purse) := fn_ok (body := b__law_purse) T.F__law_purse sc__law_purse fun cdv A outer s H E hr =>
  dss_cons (ds_set (i := 1) sc__law_purse.nd rfl (by first | exact Or.inl rfl | exact Or.inr rfl) (de_int)) (dss_cons (ds_set (i := 2) sc__law_purse.nd rfl (by first | exact Or.inl rfl | exact Or.inr rfl) (de_lst (da_nil))) (dss_cons (ds_for (passes_of rfl) rfl (di_seq (de_cut01 (de_var 0) (de_int))) (dg_name (i := 3) sc__law_purse.nd rfl (by first | exact Or.inl rfl | exact Or.inr rfl)) (dss_cons (ds_set (i := 4) sc__law_purse.nd rfl (by first | exact Or.inl rfl | exact Or.inr rfl) (de_mod (de_ca ca_abs (by rfl) T.n_abs bb_abs (da_cons (de_caT ca_int (by rfl) T.n_int bb_int (da_cons (de_var 3) (da_nil))) (da_nil))) (de_shl (de_int) (de_int)))) (dss_cons (ds_set (i := 1) sc__law_purse.nd rfl (by first | exact Or.inl rfl | exact Or.inr rfl) (de_mod (de_caT ca_int (by rfl) T.n_int bb_int (da_cons (de_add (de_add (de_mul (de_var 1) (de_int)) (de_mod (de_caT ca_int (by rfl) T.n_int bb_int (da_cons (de_var 4) (da_nil))) (de_int))) (de_int)) (da_nil))) (de_int))) (dss_one (ds_if (dt_ck ck_ge (de_var 4) (de_pow (de_int) (de_int)) (nomark _)) (dss_one (ds_expr (de_append (de_var 2) (de_var 4)))) (dss_nil)))))) (dss_one (ds_ret (de_lst (da_cons (de_rev (de_var 2)) (da_cons (de_var 1) (da_cons (de_int) (da_nil)))))))))
theorem ok__law_spend (T : Tx P K mg) : FnOk P w K mg base (L2.CX P w) 1 T.a__law_spend T.d__law_spend ["purse", "many"] (spL K mg p__law_spend) := fn_ok (body := b__law_spend) T.F__law_spend sc__law_spend fun cdv A outer s H E hr =>
  dss_cons (ds_if (dt_ck ck_lt (de_var 1) (de_int) (nomark _)) (dss_one (ds_ret (de_int))) (dss_nil)) (dss_cons (ds_if ((dw_and (dt_ck (ck_eq hr) (de_sub2 (de_var 0) (de_int)) (de_int) (nomark _)) (dw_and1 (dt_ck ck_gt (de_ca ca_len (by rfl) T.n_len bb_len (da_cons (de_sub2 (de_var 0) (de_int)) (da_nil))) (de_int) (nomark _)))).pt) (dss_one (ds_asg (de_pop0 (de_sub2 (de_var 0) (de_int))) (dg_sub (de_var 0) (de_int)))) (dss_nil)) (dss_cons (ds_if (dt_ck ck_gt (de_sub2 (de_var 0) (de_int)) (de_int) (nomark _)) (dss_cons (ds_set (i := 2) sc__law_spend.nd rfl (by first | exact Or.inl rfl | exact Or.inr rfl) (de_mod (de_caT ca_int (by rfl) T.n_int bb_int (da_cons (de_sub2 (de_var 0) (de_int)) (da_nil))) (de_var 1))) (dss_cons (ds_asg (de_div (de_sub2 (de_var 0) (de_int)) (de_var 1)) (dg_sub (de_var 0) (de_int))) (dss_one (ds_ret (de_var 2))))) (dss_nil)) (dss_cons (ds_asg (de_mod (de_caT ca_int (by rfl) T.n_int bb_int (da_cons (de_add (de_mul (de_sub2 (de_var 0) (de_int)) (de_int)) (de_int)) (da_nil))) (de_int)) (dg_sub (de_var 0) (de_int))) (dss_one (ds_ret (de_mod (de_caT ca_int (by rfl) T.n_int bb_int (da_cons (de_div (de_sub2 (de_var 0) (de_int)) (de_int)) (da_nil))) (de_var 1)))))))
theorem ok__law_one (T : Tx P K mg) : FnOk P w K mg base (L2.CX P w) 2 T.a__law_one T.d__law_one ["purse", "row"] (spL K mg p__law_one) := fn_ok (body := b__law_one) T.F__law_one sc__law_one fun cdv A outer s H E hr =>
  dss_one (ds_ret (de_sub2 (de_var 1) (de_call (ok__law_spend T) prBody_mono (takes_of rfl rfl rfl rfl) (hr.mono (by decide)) (by rfl) T.m__law_spend T.F__law_spend.kp T.b__law_spend (da_cons (de_var 0) (da_cons (de_ca ca_len (by rfl) T.n_len bb_len (da_cons (de_var 1) (da_nil))) (da_nil))))))
theorem ok__law_same (T : Tx P K mg) : FnOk P w K mg base (L2.CX P w) 1 T.a__law_same T.d__law_same ["told", "due"] (spL K mg p__law_same) := fn_ok (body := b__law_same) T.F__law_same sc__law_same fun cdv A outer s H E hr =>
  dss_cons (ds_set (i := 2) sc__law_same.nd rfl (by first | exact Or.inl rfl | exact Or.inr rfl) (de_lst (da_cons (de_tup (da_cons (de_var 0) (da_cons (de_var 1) (da_nil)))) (da_nil)))) (dss_cons (ds_while (passes_of rfl) (dt_ck ck_gt (de_ca ca_len (by rfl) T.n_len bb_len (da_cons (de_var 2) (da_nil))) (de_int) (nomark _)) (dss_cons (ds_asg (de_pop0 (de_var 2)) (dg_tup rfl sc__law_same.nd (.cons (i := 3) rfl (by first | exact Or.inl rfl | exact Or.inr rfl) (by first | exact Or.inl rfl | exact Or.inr rfl) rfl (.cons (i := 4) rfl (by first | exact Or.inl rfl | exact Or.inr rfl) (by first | exact Or.inl rfl | exact Or.inr rfl) rfl (.nil))))) (dss_cons (ds_if ((dw_or (dt_ck (ck_ne hr) (de_isi .ttuple (by rfl) T.n_isinstance (by rfl) T.n_tuple bb_tuple (de_var 3)) (de_isi .ttuple (by rfl) T.n_isinstance (by rfl) T.n_tuple bb_tuple (de_var 4)) (nomark _)) (dw_or1 (dt_ck (ck_ne hr) (de_ck ck_is (de_var 3) (de_non) (nomark _)) (de_ck ck_is (de_var 4) (de_non) (nomark _)) (nomark _)))).pt) (dss_one (ds_ret (de_bl))) (dss_nil)) (dss_one (ds_if (dt_val (de_isi .ttuple (by rfl) T.n_isinstance (by rfl) T.n_tuple bb_tuple (de_var 4))) (dss_cons (ds_if (dt_ck (ck_ne hr) (de_ca ca_len (by rfl) T.n_len bb_len (da_cons (de_var 3) (da_nil))) (de_ca ca_len (by rfl) T.n_len bb_len (da_cons (de_var 4) (da_nil))) (nomark _)) (dss_one (ds_ret (de_bl))) (dss_nil)) (dss_one (ds_set (i := 2) sc__law_same.nd rfl (by first | exact Or.inl rfl | exact Or.inr rfl) (de_add (de_var 2) (de_lc1 rfl sc__law_same.nd (di_rng1 (by rfl) T.n_range (de_ca ca_len (by rfl) T.n_len bb_len (da_cons (de_var 4) (da_nil)))) (blkOk_by (N := N__law_same) (sc := defScope s__law_same) (by decide +kernel)) (fun _ _ _ _ _ => pg_name (i := 5) sc__law_same.nd rfl (by first | exact Or.inl rfl | exact Or.inr rfl)) (fun _ _ _ _ _ => dts_nil) (fun _ _ _ _ _ => de_tup (da_cons (de_sub2 (de_var 3) (de_var 5)) (da_cons (de_sub2 (de_var 4) (de_var 5)) (da_nil))))))))) (dss_one (ds_if ((dw_or (dt_ck (ck_ne hr) (de_isi .tstr (by rfl) T.n_isinstance (by rfl) T.n_str bb_str (de_var 3)) (de_isi .tstr (by rfl) T.n_isinstance (by rfl) T.n_str bb_str (de_var 4)) (nomark _)) (dw_or1 (dt_ck (ck_ne hr) (de_isi .tint (by rfl) T.n_isinstance (by rfl) T.n_int bb_int (de_var 3)) (de_isi .tint (by rfl) T.n_isinstance (by rfl) T.n_int bb_int (de_var 4)) (nomark _)))).pt) (dss_one (ds_ret (de_bl))) (dss_one (ds_if ((dw_or (dt_ck (ck_ne hr) (de_isi .tbool (by rfl) T.n_isinstance (by rfl) T.n_bool bb_bool (de_var 3)) (de_isi .tbool (by rfl) T.n_isinstance (by rfl) T.n_bool bb_bool (de_var 4)) (nomark _)) (dw_or1 (dt_ck (ck_ne hr) (de_var 3) (de_var 4) (nomark _)))).pt) (dss_one (ds_ret (de_bl))) (dss_nil)))))))))) (dss_one (ds_ret (de_bl))))
theorem ok__law_common (T : Tx P K mg) : FnOk P w K mg base (L2.CX P w) 1 T.a__law_common T.d__law_common ["numbers"] (spL K mg p__law_common) := fn_ok (body := b__law_common) T.F__law_common sc__law_common fun cdv A outer s H E hr =>
  dss_cons (ds_set (i := 1) sc__law_common.nd rfl (by first | exact Or.inl rfl | exact Or.inr rfl) (de_int)) (dss_cons (ds_for (passes_of rfl) rfl (di_seq (de_var 0)) (dg_name (i := 2) sc__law_common.nd rfl (by first | exact Or.inl rfl | exact Or.inr rfl)) (dss_cons (ds_set (i := 3) sc__law_common.nd rfl (by first | exact Or.inl rfl | exact Or.inr rfl) (de_var 2)) (dss_one (ds_while (passes_of rfl) (dt_ck ck_gt (de_var 3) (de_int) (nomark _)) (dss_one (ds_par (i := 3) (j := 1) rfl sc__law_common.nd rfl rfl (by decide) rfl rfl (de_mod (de_caT ca_int (by rfl) T.n_int bb_int (da_cons (de_var 1) (da_nil))) (de_var 3)) (de_var 3) (by rfl))))))) (dss_one (ds_ret (de_var 1))))
theorem ok__law_die (T : Tx P K mg) : FnOk P w K mg base (L2.CX P w) 3 T.a__law_die T.d__law_die ["purse"] (spL K mg p__law_die) := fn_ok (body := b__law_die) T.F__law_die sc__law_die fun cdv A outer s H E hr =>
  dss_cons (ds_set (i := 1) sc__law_die.nd rfl (by first | exact Or.inl rfl | exact Or.inr rfl) (de_add (de_int) (de_call (ok__law_spend T) prBody_mono (takes_of rfl rfl rfl rfl) (hr.mono (by decide)) (by rfl) T.m__law_spend T.F__law_spend.kp T.b__law_spend (da_cons (de_var 0) (da_cons (de_int) (da_nil)))))) (dss_cons (ds_set (i := 2) sc__law_die.nd rfl (by first | exact Or.inl rfl | exact Or.inr rfl) (de_add (de_int) (de_call (ok__law_spend T) prBody_mono (takes_of rfl rfl rfl rfl) (hr.mono (by decide)) (by rfl) T.m__law_spend T.F__law_spend.kp T.b__law_spend (da_cons (de_var 0) (da_cons (de_int) (da_nil)))))) (dss_cons (ds_set (i := 3) sc__law_die.nd rfl (by first | exact Or.inl rfl | exact Or.inr rfl) (de_add (de_int) (de_call (ok__law_spend T) prBody_mono (takes_of rfl rfl rfl rfl) (hr.mono (by decide)) (by rfl) T.m__law_spend T.F__law_spend.kp T.b__law_spend (da_cons (de_var 0) (da_cons (de_int) (da_nil)))))) (dss_cons (ds_set (i := 4) sc__law_die.nd rfl (by first | exact Or.inl rfl | exact Or.inr rfl) (de_call (ok__law_spend T) prBody_mono (takes_of rfl rfl rfl rfl) (hr.mono (by decide)) (by rfl) T.m__law_spend T.F__law_spend.kp T.b__law_spend (da_cons (de_var 0) (da_cons (de_int) (da_nil))))) (dss_cons (ds_set (i := 5) sc__law_die.nd rfl (by first | exact Or.inl rfl | exact Or.inr rfl) (de_call (ok__law_spend T) prBody_mono (takes_of rfl rfl rfl rfl) (hr.mono (by decide)) (by rfl) T.m__law_spend T.F__law_spend.kp T.b__law_spend (da_cons (de_var 0) (da_cons (de_var 1) (da_nil))))) (dss_cons (ds_set (i := 6) sc__law_die.nd rfl (by first | exact Or.inl rfl | exact Or.inr rfl) (de_lst (da_nil))) (dss_cons (ds_for (passes_of rfl) rfl (di_rng1 (by rfl) T.n_range (de_var 1)) (dg_name (i := 7) sc__law_die.nd rfl (by first | exact Or.inl rfl | exact Or.inr rfl)) (dss_one (ds_expr (de_append (de_var 6) (de_sub2 (de_lst (da_cons (de_if (dt_ck (ck_eq hr) (de_var 7) (de_var 5) (nomark _)) (de_var 3) (de_var 2)) (da_cons (de_if (dt_ck (ck_eq hr) (de_var 7) (de_var 5) (nomark _)) (de_var 2) (de_var 3)) (da_cons (de_var 2) (da_cons (de_call (ok__law_one T) prBody_mono (takes_of rfl rfl rfl rfl) (hr.mono (by decide)) (by rfl) T.m__law_one T.F__law_one.kp T.b__law_one (da_cons (de_var 0) (da_cons (de_lst (da_cons (de_var 2) (da_cons (de_var 3) (da_nil)))) (da_nil)))) (da_nil)))))) (de_var 4)))))) (dss_cons (ds_set (i := 8) sc__law_die.nd rfl (by first | exact Or.inl rfl | exact Or.inr rfl) (de_call (ok__law_common T) prBody_mono (takes_of rfl rfl rfl rfl) (hr.mono (by decide)) (by rfl) T.m__law_common T.F__law_common.kp T.b__law_common (da_cons (de_var 6) (da_nil)))) (dss_one (ds_ret (de_caT ca_tuple (by rfl) T.n_tuple bb_tuple (da_cons (de_lc1 rfl sc__law_die.nd (di_seq (de_var 6)) (blkOk_by (N := N__law_die) (sc := defScope s__law_die) (by decide +kernel)) (fun _ _ _ _ _ => pg_name (i := 9) sc__law_die.nd rfl (by first | exact Or.inl rfl | exact Or.inr rfl)) (fun _ _ _ _ _ => dts_nil) (fun _ _ _ _ _ => de_div (de_var 9) (de_var 8))) (da_nil))))))))))))
theorem ok__law_due (T : Tx P K mg) : FnOk P w K mg base (L2.CX P w) 2 T.a__law_due T.d__law_due ["weights"] (spL K mg p__law_due) := fn_ok (body := b__law_due) T.F__law_due sc__law_due fun cdv A outer s H E hr =>
  dss_cons (ds_set (i := 1) sc__law_due.nd rfl (by first | exact Or.inl rfl | exact Or.inr rfl) (de_call (ok__law_common T) prBody_mono (takes_of rfl rfl rfl rfl) (hr.mono (by decide)) (by rfl) T.m__law_common T.F__law_common.kp T.b__law_common (da_cons (de_var 0) (da_nil)))) (dss_cons (ds_set (i := 2) sc__law_due.nd rfl (by first | exact Or.inl rfl | exact Or.inr rfl) (de_caT ca_tuple (by rfl) T.n_tuple bb_tuple (da_cons (de_lc1 rfl sc__law_due.nd (di_seq (de_var 0)) (blkOk_by (N := N__law_due) (sc := defScope s__law_due) (by decide +kernel)) (fun _ _ _ _ _ => pg_name (i := 4) sc__law_due.nd rfl (by first | exact Or.inl rfl | exact Or.inr rfl)) (fun _ _ _ _ _ => dts_nil) (fun _ _ _ _ _ => de_div (de_var 4) (de_var 1))) (da_nil)))) (dss_cons (ds_for (passes_of rfl) rfl (di_rng1 (by rfl) T.n_range (de_ca ca_len (by rfl) T.n_len bb_len (da_cons (de_var 2) (da_nil)))) (dg_name (i := 3) sc__law_due.nd rfl (by first | exact Or.inl rfl | exact Or.inr rfl)) (dss_one (ds_if (dt_ck ck_gt (de_sub2 (de_var 2) (de_var 3)) (de_int) (nomark _)) (dss_one (ds_ret (de_tup (da_cons (de_str) (da_cons (de_var 3) (da_cons (de_str) (da_nil))))))) (dss_nil)))) (dss_one (ds_ret (de_if (dt_ck ck_gt (de_lenSet (by rfl) T.n_len (by rfl) T.n_set (de_var 2)) (de_int) (nomark _)) (de_tup (da_cons (de_str) (da_cons (de_neg (de_int)) (da_cons (de_str) (da_nil))))) (de_tup (da_cons (de_str) (da_cons (de_var 2) (da_nil)))))))))
theorem ok__law_told (T : Tx P K mg) : FnOk P w K mg base (L2.CX P w) 5 T.a__law_told T.d__law_told ["weights"] (spL K mg p__law_told) := fn_ok (body := b__law_told) T.F__law_told sc__law_told fun cdv A outer s H E hr =>
  dss_one (ds_try rfl rfl sc__law_told.nd (takes_of rfl rfl rfl rfl) (passes_of rfl) (fun W pn xe tk po => dss_one (ds_ret (de_tup (da_cons (de_str) (da_cons (de_call (ok_lowest_die T) prBody_mono tk (hr.mono (by decide)) (by rfl) T.m_lowest_die T.F_lowest_die.kp T.b_lowest_die (da_cons (de_var 0) (da_nil))) (da_nil)))))) (.as (i := 1) rfl rfl ⟨by rfl, T.gC_BadDie, by decide, T.xf_BadDie, T.isa_BadDie_ok⟩ (fun a oe c d pn xf hz hf => dss_one (ds_ret (de_tup (da_cons (de_str) (da_cons (de_fld xf hz hf (by simp) (de_var 1)) (da_cons (de_fld xf hz hf (by simp) (de_var 1)) (da_nil))))))) (.one ⟨by rfl, T.gC_ThrowError, by decide, T.xf_ThrowError, T.isa_ThrowError_ok⟩ (fun a oe c d pn xf hz hf => dss_one (ds_ret (de_tup (da_cons (de_str) (da_nil))))) (.nil))))
theorem ok__law_weights (T : Tx P K mg) : FnOk P w K mg base (L2.CX P w) 3 T.a__law_weights T.d__law_weights ["purse", "die"] (spL K mg p__law_weights) := fn_ok (body := b__law_weights) T.F__law_weights sc__law_weights fun cdv A outer s H E hr =>
  dss_cons (ds_set (i := 2) sc__law_weights.nd rfl (by first | exact Or.inl rfl | exact Or.inr rfl) (de_add (de_int) (de_call (ok__law_spend T) prBody_mono (takes_of rfl rfl rfl rfl) (hr.mono (by decide)) (by rfl) T.m__law_spend T.F__law_spend.kp T.b__law_spend (da_cons (de_var 0) (da_cons (de_int) (da_nil)))))) (dss_cons (ds_setLc1 (j := 3) rfl sc__law_weights.nd rfl rfl (sw_true rfl rfl rfl (by decide +kernel)) (di_seq (de_var 1)) (blkOk_by (N := N__law_weights) (sc := defScope s__law_weights) (by decide +kernel)) (fun _ _ _ _ _ => pg_name (i := 5) sc__law_weights.nd rfl (by first | exact Or.inl rfl | exact Or.inr rfl)) (fun _ _ _ _ _ => dts_nil) (fun _ _ _ _ _ => de_mul (de_var 5) (de_var 2))) (dss_cons (ds_set (i := 4) sc__law_weights.nd rfl (by first | exact Or.inl rfl | exact Or.inr rfl) (de_call (ok__law_spend T) prBody_mono (takes_of rfl rfl rfl rfl) (hr.mono (by decide)) (by rfl) T.m__law_spend T.F__law_spend.kp T.b__law_spend (da_cons (de_var 0) (da_cons (de_int) (da_nil))))) (dss_cons (ds_if (dt_ck (ck_eq hr) (de_var 4) (de_int) (nomark _)) (dss_one (ds_asg (de_add (de_int) (de_call (ok__law_spend T) prBody_mono (takes_of rfl rfl rfl rfl) (hr.mono (by decide)) (by rfl) T.m__law_spend T.F__law_spend.kp T.b__law_spend (da_cons (de_var 0) (da_cons (de_int) (da_nil))))) (dg_sub (de_var 3) (de_call (ok__law_spend T) prBody_mono (takes_of rfl rfl rfl rfl) (hr.mono (by decide)) (by rfl) T.m__law_spend T.F__law_spend.kp T.b__law_spend (da_cons (de_var 0) (da_cons (de_ca ca_len (by rfl) T.n_len bb_len (da_cons (de_var 3) (da_nil))) (da_nil))))))) (dss_nil)) (dss_cons (ds_if (dt_ck (ck_eq hr) (de_var 4) (de_int) (nomark _)) (dss_one (ds_asg (de_mul (de_var 2) (de_add (de_int) (de_call (ok__law_spend T) prBody_mono (takes_of rfl rfl rfl rfl) (hr.mono (by decide)) (by rfl) T.m__law_spend T.F__law_spend.kp T.b__law_spend (da_cons (de_var 0) (da_cons (de_int) (da_nil)))))) (dg_sub (de_var 3) (de_call (ok__law_spend T) prBody_mono (takes_of rfl rfl rfl rfl) (hr.mono (by decide)) (by rfl) T.m__law_spend T.F__law_spend.kp T.b__law_spend (da_cons (de_var 0) (da_cons (de_ca ca_len (by rfl) T.n_len bb_len (da_cons (de_var 3) (da_nil))) (da_nil))))))) (dss_nil)) (dss_cons (ds_if (dt_ck (ck_eq hr) (de_var 4) (de_int) (nomark _)) (dss_one (ds_setLc1 (j := 3) rfl sc__law_weights.nd rfl rfl (sw_true rfl rfl rfl (by decide +kernel)) (di_seq (de_var 1)) (blkOk_by (N := N__law_weights) (sc := defScope s__law_weights) (by decide +kernel)) (fun _ _ _ _ _ => pg_name (i := 6) sc__law_weights.nd rfl (by first | exact Or.inl rfl | exact Or.inr rfl)) (fun _ _ _ _ _ => dts_nil) (fun _ _ _ _ _ => de_add (de_int) (de_call (ok__law_spend T) prBody_mono takes0 (hr.mono (by decide)) (by rfl) T.m__law_spend T.F__law_spend.kp T.b__law_spend (da_cons (de_var 0) (da_cons (de_call (ok__law_one T) prBody_mono takes0 (hr.mono (by decide)) (by rfl) T.m__law_one T.F__law_one.kp T.b__law_one (da_cons (de_var 0) (da_cons (de_lst (da_cons (de_int) (da_cons (de_int) (da_cons (de_int) (da_nil))))) (da_nil)))) (da_nil))))))) (dss_nil)) (dss_one (ds_ret (de_caT ca_tuple (by rfl) T.n_tuple bb_tuple (da_cons (de_var 3) (da_nil))))))))))
theorem ok__law_asked (T : Tx P K mg) : FnOk P w K mg base (L2.CX P w) 3 T.a__law_asked T.d__law_asked ["purse", "die"] (spL K mg p__law_asked) := fn_ok (body := b__law_asked) T.F__law_asked sc__law_asked fun cdv A outer s H E hr =>
  dss_cons (ds_set (i := 2) sc__law_asked.nd rfl (by first | exact Or.inl rfl | exact Or.inr rfl) (de_call (ok__law_one T) prBody_mono (takes_of rfl rfl rfl rfl) (hr.mono (by decide)) (by rfl) T.m__law_one T.F__law_one.kp T.b__law_one (da_cons (de_var 0) (da_cons (de_lst (da_cons (de_int) (da_cons (de_int) (da_cons (de_sub (de_ca ca_len (by rfl) T.n_len bb_len (da_cons (de_var 1) (da_nil))) (de_int)) (da_cons (de_ca ca_len (by rfl) T.n_len bb_len (da_cons (de_var 1) (da_nil))) (da_cons (de_call (ok__law_spend T) prBody_mono (takes_of rfl rfl rfl rfl) (hr.mono (by decide)) (by rfl) T.m__law_spend T.F__law_spend.kp T.b__law_spend (da_cons (de_var 0) (da_cons (de_int) (da_nil)))) (da_cons (de_add (de_pow (de_int) (de_int)) (de_call (ok__law_spend T) prBody_mono (takes_of rfl rfl rfl rfl) (hr.mono (by decide)) (by rfl) T.m__law_spend T.F__law_spend.kp T.b__law_spend (da_cons (de_var 0) (da_cons (de_int) (da_nil))))) (da_nil)))))))) (da_nil))))) (dss_cons (ds_set (i := 3) sc__law_asked.nd rfl (by first | exact Or.inl rfl | exact Or.inr rfl) (de_caT ca_tuple (by rfl) T.n_tuple bb_tuple (da_cons (de_lc1 rfl sc__law_asked.nd (di_rng1 (by rfl) T.n_range (de_ca ca_len (by rfl) T.n_len bb_len (da_cons (de_var 1) (da_nil)))) (blkOk_by (N := N__law_asked) (sc := defScope s__law_asked) (by decide +kernel)) (fun _ _ _ _ _ => pg_name (i := 7) sc__law_asked.nd rfl (by first | exact Or.inl rfl | exact Or.inr rfl)) (fun _ _ _ _ _ => dts_nil) (fun _ _ _ _ _ => de_sub2 (de_var 1) (de_mod (de_caT ca_int (by rfl) T.n_int bb_int (da_cons (de_add (de_var 7) (de_var 2)) (da_nil))) (de_ca ca_len (by rfl) T.n_len bb_len (da_cons (de_var 1) (da_nil)))))) (da_nil)))) (dss_cons (ds_if ((dw_or (dt_not (dt_val (de_call (ok__law_same T) prBody_mono (takes_of rfl rfl rfl rfl) (hr.mono (by decide)) (by rfl) T.m__law_same T.F__law_same.kp T.b__law_same (da_cons (de_call (ok_turned_die T) prBody_mono (takes_of rfl rfl rfl rfl) (hr.mono (by decide)) (by rfl) T.m_turned_die T.F_turned_die.kp T.b_turned_die (da_cons (de_var 1) (da_cons (de_var 2) (da_nil)))) (da_cons (de_var 3) (da_nil)))))) (dw_or1 (dt_not (dt_val (de_call (ok__law_same T) prBody_mono (takes_of rfl rfl rfl rfl) (hr.mono (by decide)) (by rfl) T.m__law_same T.F__law_same.kp T.b__law_same (da_cons (de_call (ok_die_form T) prBody_mono (takes_of rfl rfl rfl rfl) (hr.mono (by decide)) (by rfl) T.m_die_form T.F_die_form.kp T.b_die_form (da_cons (de_call (ok_turned_die T) prBody_mono (takes_of rfl rfl rfl rfl) (hr.mono (by decide)) (by rfl) T.m_turned_die T.F_turned_die.kp T.b_turned_die (da_cons (de_var 1) (da_cons (de_ca ca_len (by rfl) T.n_len bb_len (da_cons (de_var 1) (da_nil))) (da_nil)))) (da_nil))) (da_cons (de_call (ok_die_form T) prBody_mono (takes_of rfl rfl rfl rfl) (hr.mono (by decide)) (by rfl) T.m_die_form T.F_die_form.kp T.b_die_form (da_cons (de_var 1) (da_nil))) (da_nil)))))))).pt) (dss_one (ds_ret (de_bl))) (dss_nil)) (dss_cons (ds_set (i := 4) sc__law_asked.nd rfl (by first | exact Or.inl rfl | exact Or.inr rfl) (de_listR rfl (by rfl) T.n_list (by rfl) T.n_range (de_ca ca_len (by rfl) T.n_len bb_len (da_cons (de_var 1) (da_nil))))) (dss_cons (ds_set (i := 5) sc__law_asked.nd rfl (by first | exact Or.inl rfl | exact Or.inr rfl) (de_caT ca_tuple (by rfl) T.n_tuple bb_tuple (da_cons (de_lc1 rfl sc__law_asked.nd (di_seq (de_var 1)) (blkOk_by (N := N__law_asked) (sc := defScope s__law_asked) (by decide +kernel)) (fun _ _ _ _ _ => pg_name (i := 7) sc__law_asked.nd rfl (by first | exact Or.inl rfl | exact Or.inr rfl)) (fun _ _ _ _ _ => dts_nil) (fun _ _ _ _ _ => de_pop1 (de_var 4) (de_call (ok__law_spend T) prBody_mono takes0 (hr.mono (by decide)) (by rfl) T.m__law_spend T.F__law_spend.kp T.b__law_spend (da_cons (de_var 0) (da_cons (de_ca ca_len (by rfl) T.n_len bb_len (da_cons (de_var 4) (da_nil))) (da_nil)))))) (da_nil)))) (dss_cons (ds_set (i := 6) sc__law_asked.nd rfl (by first | exact Or.inl rfl | exact Or.inr rfl) (de_mul (de_lst (da_cons (de_int) (da_nil))) (de_ca ca_len (by rfl) T.n_len bb_len (da_cons (de_var 1) (da_nil))))) (dss_cons (ds_for (passes_of rfl) rfl (di_rng1 (by rfl) T.n_range (de_ca ca_len (by rfl) T.n_len bb_len (da_cons (de_var 1) (da_nil)))) (dg_name (i := 7) sc__law_asked.nd rfl (by first | exact Or.inl rfl | exact Or.inr rfl)) (dss_one (ds_asg (de_sub2 (de_var 1) (de_var 7)) (dg_sub (de_var 6) (de_sub2 (de_var 5) (de_var 7)))))) (dss_one (ds_ret (de_call (ok__law_same T) prBody_mono (takes_of rfl rfl rfl rfl) (hr.mono (by decide)) (by rfl) T.m__law_same T.F__law_same.kp T.b__law_same (da_cons (de_tup (da_cons (de_call (ok_mixed_die T) prBody_mono (takes_of rfl rfl rfl rfl) (hr.mono (by decide)) (by rfl) T.m_mixed_die T.F_mixed_die.kp T.b_mixed_die (da_cons (de_var 1) (da_cons (de_var 5) (da_nil)))) (da_cons (de_call (ok_die_total T) prBody_mono (takes_of rfl rfl rfl rfl) (hr.mono (by decide)) (by rfl) T.m_die_total T.F_die_total.kp T.b_die_total (da_cons (de_var 3) (da_nil))) (da_nil)))) (da_cons (de_tup (da_cons (de_caT ca_tuple (by rfl) T.n_tuple bb_tuple (da_cons (de_var 6) (da_nil))) (da_cons (de_ca (ca_sum rfl) (by rfl) T.n_sum bb_sum (da_cons (de_var 1) (da_nil))) (da_nil)))) (da_nil))))))))))))
theorem ok_law (T : Tx P K mg) : FnOk P w K mg base (L2.CX P w) 6 T.a_law T.d_law ["script"] (spL K mg p_law) := fn_ok (body := b_law) T.F_law sc_law fun cdv A outer s H E hr =>
  dss_cons (ds_set (i := 1) sc_law.nd rfl (by first | exact Or.inl rfl | exact Or.inr rfl) (de_call (ok__law_purse T) prBody_mono (takes_of rfl rfl rfl rfl) (hr.mono (by decide)) (by rfl) T.m__law_purse T.F__law_purse.kp T.b__law_purse (da_cons (de_var 0) (da_nil)))) (dss_cons (ds_if (dt_not (dt_val (de_call (ok__law_same T) prBody_mono (takes_of rfl rfl rfl rfl) (hr.mono (by decide)) (by rfl) T.m__law_same T.F__law_same.kp T.b__law_same (da_cons (de_tup (da_cons (de_call (ok_lowest_die T) prBody_mono (takes_of rfl rfl rfl rfl) (hr.mono (by decide)) (by rfl) T.m_lowest_die T.F_lowest_die.kp T.b_lowest_die (da_cons (de_tup (da_cons (de_int) (da_cons (de_int) (da_nil)))) (da_nil))) (da_cons (de_call (ok_turned_die T) prBody_mono (takes_of rfl rfl rfl rfl) (hr.mono (by decide)) (by rfl) T.m_turned_die T.F_turned_die.kp T.b_turned_die (da_cons (de_tup (da_cons (de_int) (da_cons (de_int) (da_cons (de_int) (da_nil))))) (da_cons (de_int) (da_nil)))) (da_cons (de_call (ok_mixed_die T) prBody_mono (takes_of rfl rfl rfl rfl) (hr.mono (by decide)) (by rfl) T.m_mixed_die T.F_mixed_die.kp T.b_mixed_die (da_cons (de_tup (da_cons (de_int) (da_cons (de_int) (da_cons (de_int) (da_nil))))) (da_cons (de_tup (da_cons (de_int) (da_cons (de_int) (da_cons (de_int) (da_nil))))) (da_nil)))) (da_nil))))) (da_cons (de_tup (da_cons (de_tup (da_cons (de_int) (da_cons (de_int) (da_nil)))) (da_cons (de_tup (da_cons (de_int) (da_cons (de_int) (da_cons (de_int) (da_nil))))) (da_cons (de_tup (da_cons (de_int) (da_cons (de_int) (da_cons (de_int) (da_nil))))) (da_nil))))) (da_nil)))))) (dss_one (ds_ret (de_bl))) (dss_nil)) (dss_cons (ds_for (passes_of rfl) rfl (di_rng1 (by rfl) T.n_range (de_int)) (dg_name (i := 2) sc_law.nd rfl (by first | exact Or.inl rfl | exact Or.inr rfl)) (dss_cons (ds_set (i := 3) sc_law.nd rfl (by first | exact Or.inl rfl | exact Or.inr rfl) (de_call (ok__law_die T) prBody_mono (takes_of rfl rfl rfl rfl) (hr.mono (by decide)) (by rfl) T.m__law_die T.F__law_die.kp T.b__law_die (da_cons (de_var 1) (da_nil)))) (dss_cons (ds_if (dt_not (dt_val (de_call (ok__law_asked T) prBody_mono (takes_of rfl rfl rfl rfl) (hr.mono (by decide)) (by rfl) T.m__law_asked T.F__law_asked.kp T.b__law_asked (da_cons (de_var 1) (da_cons (de_var 3) (da_nil)))))) (dss_one (ds_ret (de_bl))) (dss_nil)) (dss_cons (ds_for (passes_of rfl) rfl (di_rng1 (by rfl) T.n_range (de_int)) (dg_name (i := 4) sc_law.nd rfl (by first | exact Or.inl rfl | exact Or.inr rfl)) (dss_cons (ds_set (i := 6) sc_law.nd rfl (by first | exact Or.inl rfl | exact Or.inr rfl) (de_call (ok__law_weights T) prBody_mono (takes_of rfl rfl rfl rfl) (hr.mono (by decide)) (by rfl) T.m__law_weights T.F__law_weights.kp T.b__law_weights (da_cons (de_var 1) (da_cons (de_var 3) (da_nil))))) (dss_one (ds_if (dt_not (dt_val (de_call (ok__law_same T) prBody_mono (takes_of rfl rfl rfl rfl) (hr.mono (by decide)) (by rfl) T.m__law_same T.F__law_same.kp T.b__law_same (da_cons (de_call (ok__law_told T) prBody_mono (takes_of rfl rfl rfl rfl) (hr.mono (by decide)) (by rfl) T.m__law_told T.F__law_told.kp T.b__law_told (da_cons (de_var 6) (da_nil))) (da_cons (de_call (ok__law_due T) prBody_mono (takes_of rfl rfl rfl rfl) (hr.mono (by decide)) (by rfl) T.m__law_due T.F__law_due.kp T.b__law_due (da_cons (de_var 6) (da_nil))) (da_nil)))))) (dss_one (ds_ret (de_bl))) (dss_nil))))) (dss_cons (ds_set (i := 5) sc_law.nd rfl (by first | exact Or.inl rfl | exact Or.inr rfl) (de_add (de_int) (de_call (ok__law_spend T) prBody_mono (takes_of rfl rfl rfl rfl) (hr.mono (by decide)) (by rfl) T.m__law_spend T.F__law_spend.kp T.b__law_spend (da_cons (de_var 1) (da_cons (de_int) (da_nil)))))) (dss_one (ds_if ((dw_or (dt_not (dt_val (de_call (ok__law_same T) prBody_mono (takes_of rfl rfl rfl rfl) (hr.mono (by decide)) (by rfl) T.m__law_same T.F__law_same.kp T.b__law_same (da_cons (de_call (ok__law_told T) prBody_mono (takes_of rfl rfl rfl rfl) (hr.mono (by decide)) (by rfl) T.m__law_told T.F__law_told.kp T.b__law_told (da_cons (de_caT ca_tuple (by rfl) T.n_tuple bb_tuple (da_cons (de_lc1 rfl sc_law.nd (di_seq (de_var 3)) (blkOk_by (N := N_law) (sc := defScope s_law) (by decide +kernel)) (fun _ _ _ _ _ => pg_name (i := 7) sc_law.nd rfl (by first | exact Or.inl rfl | exact Or.inr rfl)) (fun _ _ _ _ _ => dts_nil) (fun _ _ _ _ _ => de_mul (de_var 7) (de_var 5))) (da_nil))) (da_nil))) (da_cons (de_tup (da_cons (de_str) (da_cons (de_var 3) (da_nil)))) (da_nil)))))) (dw_or1 (dt_ck (ck_ne hr) (de_sub2 (de_call (ok__law_told T) prBody_mono (takes_of rfl rfl rfl rfl) (hr.mono (by decide)) (by rfl) T.m__law_told T.F__law_told.kp T.b__law_told (da_cons (de_tup (da_cons (de_int) (da_cons (de_add (de_mul (de_var 5) (de_int)) (de_mul (de_int) (de_int))) (da_nil)))) (da_nil))) (de_int)) (de_str) (nomark _)))).pt) (dss_one (ds_ret (de_bl))) (dss_nil)))))))) (dss_one (ds_ret (de_bl)))))
end
theorem all_mk {l : PySem.W.OpenLaw} {w : World} {K : PySem.W.Frag} {h : Heap} {mg : Str → Option Value} {fa : Addr} (X : K.In h) (G : h.Ns mainGlobals mg) (hfa : mg "law" = some (.ref fa))
    (law : ∀ ns : List Int, ns.length ≤ 63 → p_law [.rol (ns.map D.int)] (fun _ => none) (fun d _ => d = .bl true) (fun _ _ => False))
    {f_is_whole : Addr} {od_is_whole an_is_whole : Option Addr} {sl_is_whole : Array (Option Value)} {oc_is_whole kV_is_whole dc_is_whole pm_is_whole cd_is_whole ct_is_whole : Value}
    {f_is_between : Addr} {od_is_between an_is_between : Option Addr} {sl_is_between : Array (Option Value)} {oc_is_between kV_is_between dc_is_between pm_is_between cd_is_between ct_is_between : Value}
    {f_common_factor : Addr} {od_common_factor an_common_factor : Option Addr} {sl_common_factor : Array (Option Value)} {oc_common_factor kV_common_factor dc_common_factor pm_common_factor cd_common_factor ct_common_factor : Value}
    {f_check_die : Addr} {od_check_die an_check_die : Option Addr} {sl_check_die : Array (Option Value)} {oc_check_die kV_check_die dc_check_die pm_check_die cd_check_die ct_check_die : Value}
    {f_lowest_die : Addr} {od_lowest_die an_lowest_die : Option Addr} {sl_lowest_die : Array (Option Value)} {oc_lowest_die kV_lowest_die dc_lowest_die pm_lowest_die cd_lowest_die ct_lowest_die : Value}
    {f_turned_die : Addr} {od_turned_die an_turned_die : Option Addr} {sl_turned_die : Array (Option Value)} {oc_turned_die kV_turned_die dc_turned_die pm_turned_die cd_turned_die ct_turned_die : Value}
    {f_mixed_die : Addr} {od_mixed_die an_mixed_die : Option Addr} {sl_mixed_die : Array (Option Value)} {oc_mixed_die kV_mixed_die dc_mixed_die pm_mixed_die cd_mixed_die ct_mixed_die : Value}
    {f_die_total : Addr} {od_die_total an_die_total : Option Addr} {sl_die_total : Array (Option Value)} {oc_die_total kV_die_total dc_die_total pm_die_total cd_die_total ct_die_total : Value}
    {f_light_faces : Addr} {od_light_faces an_light_faces : Option Addr} {sl_light_faces : Array (Option Value)} {oc_light_faces kV_light_faces dc_light_faces pm_light_faces cd_light_faces ct_light_faces : Value}
    {f_die_form : Addr} {od_die_form an_die_form : Option Addr} {sl_die_form : Array (Option Value)} {oc_die_form kV_die_form dc_die_form pm_die_form cd_die_form ct_die_form : Value}
    {f__law_purse : Addr} {od__law_purse an__law_purse : Option Addr} {sl__law_purse : Array (Option Value)} {oc__law_purse kV__law_purse dc__law_purse pm__law_purse cd__law_purse ct__law_purse : Value}
    {f__law_spend : Addr} {od__law_spend an__law_spend : Option Addr} {sl__law_spend : Array (Option Value)} {oc__law_spend kV__law_spend dc__law_spend pm__law_spend cd__law_spend ct__law_spend : Value}
    {f__law_one : Addr} {od__law_one an__law_one : Option Addr} {sl__law_one : Array (Option Value)} {oc__law_one kV__law_one dc__law_one pm__law_one cd__law_one ct__law_one : Value}
    {f__law_same : Addr} {od__law_same an__law_same : Option Addr} {sl__law_same : Array (Option Value)} {oc__law_same kV__law_same dc__law_same pm__law_same cd__law_same ct__law_same : Value}
    {f__law_common : Addr} {od__law_common an__law_common : Option Addr} {sl__law_common : Array (Option Value)} {oc__law_common kV__law_common dc__law_common pm__law_common cd__law_common ct__law_common : Value}
    {f__law_die : Addr} {od__law_die an__law_die : Option Addr} {sl__law_die : Array (Option Value)} {oc__law_die kV__law_die dc__law_die pm__law_die cd__law_die ct__law_die : Value}
    {f__law_due : Addr} {od__law_due an__law_due : Option Addr} {sl__law_due : Array (Option Value)} {oc__law_due kV__law_due dc__law_due pm__law_due cd__law_due ct__law_due : Value}
    {f__law_told : Addr} {od__law_told an__law_told : Option Addr} {sl__law_told : Array (Option Value)} {oc__law_told kV__law_told dc__law_told pm__law_told cd__law_told ct__law_told : Value}
    {f__law_weights : Addr} {od__law_weights an__law_weights : Option Addr} {sl__law_weights : Array (Option Value)} {oc__law_weights kV__law_weights dc__law_weights pm__law_weights cd__law_weights ct__law_weights : Value}
    {f__law_asked : Addr} {od__law_asked an__law_asked : Option Addr} {sl__law_asked : Array (Option Value)} {oc__law_asked kV__law_asked dc__law_asked pm__law_asked cd__law_asked ct__law_asked : Value}
    {f_law : Addr} {od_law an_law : Option Addr} {sl_law : Array (Option Value)} {oc_law kV_law dc_law pm_law cd_law ct_law : Value}
    {t_LEAST_FACES : Tok}
    {t_MOST_FACES : Tok}
    {t_MOST_WEIGHT : Tok}
    {c_ThrowError : Addr}
    {c_BadDie : Addr}
    {i_BadDie cda_BadDie cc_BadDie N_BadDie : Addr} {od_BadDie an_BadDie dd_BadDie cdd_BadDie cld_BadDie : Option Addr} {nm_BadDie qn_BadDie file_BadDie : Str} {tf_BadDie : Tok} {bs_BadDie bm_BadDie sub_BadDie : List Value} {sn_BadDie : List Str} {ab_BadDie : Bool} {col_BadDie : Option Bool} {m0_BadDie m1_BadDie m2_BadDie m3_BadDie m5_BadDie : Option Value} {oc_BadDie kV_BadDie dc_BadDie pm_BadDie ct_BadDie ccl_BadDie cl_BadDie : Value} {vs_BadDie : Array Value} {sl_BadDie ccs_BadDie csl_BadDie : Array (Option Value)}
    (a_is_whole : PySem.W.nsIn K mainGlobals "is_whole" = some (some (.ref f_is_whole)))
    (l_is_whole : K.lookup f_is_whole = some ⟨oc_is_whole, od_is_whole, .func (PySem.W.fnOf "is_whole" "is_whole" (defArgs s_is_whole) (defBody s_is_whole) (defScope s_is_whole) .none kV_is_whole dc_is_whole pm_is_whole an_is_whole cd_is_whole ct_is_whole), sl_is_whole⟩)
    (c_is_whole : PySem.W.codeIn K cd_is_whole "is_whole" = true) (k_is_whole : PySem.W.keepIn K (.ref f_is_whole) = true)
    (a_is_between : PySem.W.nsIn K mainGlobals "is_between" = some (some (.ref f_is_between)))
    (l_is_between : K.lookup f_is_between = some ⟨oc_is_between, od_is_between, .func (PySem.W.fnOf "is_between" "is_between" (defArgs s_is_between) (defBody s_is_between) (defScope s_is_between) .none kV_is_between dc_is_between pm_is_between an_is_between cd_is_between ct_is_between), sl_is_between⟩)
    (c_is_between : PySem.W.codeIn K cd_is_between "is_between" = true) (k_is_between : PySem.W.keepIn K (.ref f_is_between) = true)
    (a_common_factor : PySem.W.nsIn K mainGlobals "common_factor" = some (some (.ref f_common_factor)))
    (l_common_factor : K.lookup f_common_factor = some ⟨oc_common_factor, od_common_factor, .func (PySem.W.fnOf "common_factor" "common_factor" (defArgs s_common_factor) (defBody s_common_factor) (defScope s_common_factor) .none kV_common_factor dc_common_factor pm_common_factor an_common_factor cd_common_factor ct_common_factor), sl_common_factor⟩)
    (c_common_factor : PySem.W.codeIn K cd_common_factor "common_factor" = true) (k_common_factor : PySem.W.keepIn K (.ref f_common_factor) = true)
    (a_check_die : PySem.W.nsIn K mainGlobals "check_die" = some (some (.ref f_check_die)))
    (l_check_die : K.lookup f_check_die = some ⟨oc_check_die, od_check_die, .func (PySem.W.fnOf "check_die" "check_die" (defArgs s_check_die) (defBody s_check_die) (defScope s_check_die) .none kV_check_die dc_check_die pm_check_die an_check_die cd_check_die ct_check_die), sl_check_die⟩)
    (c_check_die : PySem.W.codeIn K cd_check_die "check_die" = true) (k_check_die : PySem.W.keepIn K (.ref f_check_die) = true)
    (a_lowest_die : PySem.W.nsIn K mainGlobals "lowest_die" = some (some (.ref f_lowest_die)))
    (l_lowest_die : K.lookup f_lowest_die = some ⟨oc_lowest_die, od_lowest_die, .func (PySem.W.fnOf "lowest_die" "lowest_die" (defArgs s_lowest_die) (defBody s_lowest_die) (defScope s_lowest_die) .none kV_lowest_die dc_lowest_die pm_lowest_die an_lowest_die cd_lowest_die ct_lowest_die), sl_lowest_die⟩)
    (c_lowest_die : PySem.W.codeIn K cd_lowest_die "lowest_die" = true) (k_lowest_die : PySem.W.keepIn K (.ref f_lowest_die) = true)
    (a_turned_die : PySem.W.nsIn K mainGlobals "turned_die" = some (some (.ref f_turned_die)))
    (l_turned_die : K.lookup f_turned_die = some ⟨oc_turned_die, od_turned_die, .func (PySem.W.fnOf "turned_die" "turned_die" (defArgs s_turned_die) (defBody s_turned_die) (defScope s_turned_die) .none kV_turned_die dc_turned_die pm_turned_die an_turned_die cd_turned_die ct_turned_die), sl_turned_die⟩)
    (c_turned_die : PySem.W.codeIn K cd_turned_die "turned_die" = true) (k_turned_die : PySem.W.keepIn K (.ref f_turned_die) = true)
    (a_mixed_die : PySem.W.nsIn K mainGlobals "mixed_die" = some (some (.ref f_mixed_die)))
    (l_mixed_die : K.lookup f_mixed_die = some ⟨oc_mixed_die, od_mixed_die, .func (PySem.W.fnOf "mixed_die" "mixed_die" (defArgs s_mixed_die) (defBody s_mixed_die) (defScope s_mixed_die) .none kV_mixed_die dc_mixed_die pm_mixed_die an_mixed_die cd_mixed_die ct_mixed_die), sl_mixed_die⟩)
    (c_mixed_die : PySem.W.codeIn K cd_mixed_die "mixed_die" = true) (k_mixed_die : PySem.W.keepIn K (.ref f_mixed_die) = true)
    (a_die_total : PySem.W.nsIn K mainGlobals "die_total" = some (some (.ref f_die_total)))
    (l_die_total : K.lookup f_die_total = some ⟨oc_die_total, od_die_total, .func (PySem.W.fnOf "die_total" "die_total" (defArgs s_die_total) (defBody s_die_total) (defScope s_die_total) .none kV_die_total dc_die_total pm_die_total an_die_total cd_die_total ct_die_total), sl_die_total⟩)
    (c_die_total : PySem.W.codeIn K cd_die_total "die_total" = true) (k_die_total : PySem.W.keepIn K (.ref f_die_total) = true)
    (a_light_faces : PySem.W.nsIn K mainGlobals "light_faces" = some (some (.ref f_light_faces)))
    (l_light_faces : K.lookup f_light_faces = some ⟨oc_light_faces, od_light_faces, .func (PySem.W.fnOf "light_faces" "light_faces" (defArgs s_light_faces) (defBody s_light_faces) (defScope s_light_faces) .none kV_light_faces dc_light_faces pm_light_faces an_light_faces cd_light_faces ct_light_faces), sl_light_faces⟩)
    (c_light_faces : PySem.W.codeIn K cd_light_faces "light_faces" = true) (k_light_faces : PySem.W.keepIn K (.ref f_light_faces) = true)
    (a_die_form : PySem.W.nsIn K mainGlobals "die_form" = some (some (.ref f_die_form)))
    (l_die_form : K.lookup f_die_form = some ⟨oc_die_form, od_die_form, .func (PySem.W.fnOf "die_form" "die_form" (defArgs s_die_form) (defBody s_die_form) (defScope s_die_form) .none kV_die_form dc_die_form pm_die_form an_die_form cd_die_form ct_die_form), sl_die_form⟩)
    (c_die_form : PySem.W.codeIn K cd_die_form "die_form" = true) (k_die_form : PySem.W.keepIn K (.ref f_die_form) = true)
    (a__law_purse : PySem.W.nsIn K mainGlobals "_law_purse" = some (some (.ref f__law_purse)))
    (l__law_purse : K.lookup f__law_purse = some ⟨oc__law_purse, od__law_purse, .func (PySem.W.fnOf "_law_purse" "_law_purse" (defArgs s__law_purse) (defBody s__law_purse) (defScope s__law_purse) .none kV__law_purse dc__law_purse pm__law_purse an__law_purse cd__law_purse ct__law_purse), sl__law_purse⟩)
    (c__law_purse : PySem.W.codeIn K cd__law_purse "_law_purse" = true) (k__law_purse : PySem.W.keepIn K (.ref f__law_purse) = true)
    (a__law_spend : PySem.W.nsIn K mainGlobals "_law_spend" = some (some (.ref f__law_spend)))
    (l__law_spend : K.lookup f__law_spend = some ⟨oc__law_spend, od__law_spend, .func (PySem.W.fnOf "_law_spend" "_law_spend" (defArgs s__law_spend) (defBody s__law_spend) (defScope s__law_spend) .none kV__law_spend dc__law_spend pm__law_spend an__law_spend cd__law_spend ct__law_spend), sl__law_spend⟩)
    (c__law_spend : PySem.W.codeIn K cd__law_spend "_law_spend" = true) (k__law_spend : PySem.W.keepIn K (.ref f__law_spend) = true)
    (a__law_one : PySem.W.nsIn K mainGlobals "_law_one" = some (some (.ref f__law_one)))
    (l__law_one : K.lookup f__law_one = some ⟨oc__law_one, od__law_one, .func (PySem.W.fnOf "_law_one" "_law_one" (defArgs s__law_one) (defBody s__law_one) (defScope s__law_one) .none kV__law_one dc__law_one pm__law_one an__law_one cd__law_one ct__law_one), sl__law_one⟩)
    (c__law_one : PySem.W.codeIn K cd__law_one "_law_one" = true) (k__law_one : PySem.W.keepIn K (.ref f__law_one) = true)
    (a__law_same : PySem.W.nsIn K mainGlobals "_law_same" = some (some (.ref f__law_same)))
    (l__law_same : K.lookup f__law_same = some ⟨oc__law_same, od__law_same, .func (PySem.W.fnOf "_law_same" "_law_same" (defArgs s__law_same) (defBody s__law_same) (defScope s__law_same) .none kV__law_same dc__law_same pm__law_same an__law_same cd__law_same ct__law_same), sl__law_same⟩)
    (c__law_same : PySem.W.codeIn K cd__law_same "_law_same" = true) (k__law_same : PySem.W.keepIn K (.ref f__law_same) = true)
    (a__law_common : PySem.W.nsIn K mainGlobals "_law_common" = some (some (.ref f__law_common)))
    (l__law_common : K.lookup f__law_common = some ⟨oc__law_common, od__law_common, .func (PySem.W.fnOf "_law_common" "_law_common" (defArgs s__law_common) (defBody s__law_common) (defScope s__law_common) .none kV__law_common dc__law_common pm__law_common an__law_common cd__law_common ct__law_common), sl__law_common⟩)
    (c__law_common : PySem.W.codeIn K cd__law_common "_law_common" = true) (k__law_common : PySem.W.keepIn K (.ref f__law_common) = true)
    (a__law_die : PySem.W.nsIn K mainGlobals "_law_die" = some (some (.ref f__law_die)))
    (l__law_die : K.lookup f__law_die = some ⟨oc__law_die, od__law_die, .func (PySem.W.fnOf "_law_die" "_law_die" (defArgs s__law_die) (defBody s__law_die) (defScope s__law_die) .none kV__law_die dc__law_die pm__law_die an__law_die cd__law_die ct__law_die), sl__law_die⟩)
    (c__law_die : PySem.W.codeIn K cd__law_die "_law_die" = true) (k__law_die : PySem.W.keepIn K (.ref f__law_die) = true)
    (a__law_due : PySem.W.nsIn K mainGlobals "_law_due" = some (some (.ref f__law_due)))
    (l__law_due : K.lookup f__law_due = some ⟨oc__law_due, od__law_due, .func (PySem.W.fnOf "_law_due" "_law_due" (defArgs s__law_due) (defBody s__law_due) (defScope s__law_due) .none kV__law_due dc__law_due pm__law_due an__law_due cd__law_due ct__law_due), sl__law_due⟩)
    (c__law_due : PySem.W.codeIn K cd__law_due "_law_due" = true) (k__law_due : PySem.W.keepIn K (.ref f__law_due) = true)
    (a__law_told : PySem.W.nsIn K mainGlobals "_law_told" = some (some (.ref f__law_told)))
    (l__law_told : K.lookup f__law_told = some ⟨oc__law_told, od__law_told, .func (PySem.W.fnOf "_law_told" "_law_told" (defArgs s__law_told) (defBody s__law_told) (defScope s__law_told) .none kV__law_told dc__law_told pm__law_told an__law_told cd__law_told ct__law_told), sl__law_told⟩)
    (c__law_told : PySem.W.codeIn K cd__law_told "_law_told" = true) (k__law_told : PySem.W.keepIn K (.ref f__law_told) = true)
    (a__law_weights : PySem.W.nsIn K mainGlobals "_law_weights" = some (some (.ref f__law_weights)))
    (l__law_weights : K.lookup f__law_weights = some ⟨oc__law_weights, od__law_weights, .func (PySem.W.fnOf "_law_weights" "_law_weights" (defArgs s__law_weights) (defBody s__law_weights) (defScope s__law_weights) .none kV__law_weights dc__law_weights pm__law_weights an__law_weights cd__law_weights ct__law_weights), sl__law_weights⟩)
    (c__law_weights : PySem.W.codeIn K cd__law_weights "_law_weights" = true) (k__law_weights : PySem.W.keepIn K (.ref f__law_weights) = true)
    (a__law_asked : PySem.W.nsIn K mainGlobals "_law_asked" = some (some (.ref f__law_asked)))
    (l__law_asked : K.lookup f__law_asked = some ⟨oc__law_asked, od__law_asked, .func (PySem.W.fnOf "_law_asked" "_law_asked" (defArgs s__law_asked) (defBody s__law_asked) (defScope s__law_asked) .none kV__law_asked dc__law_asked pm__law_asked an__law_asked cd__law_asked ct__law_asked), sl__law_asked⟩)
    (c__law_asked : PySem.W.codeIn K cd__law_asked "_law_asked" = true) (k__law_asked : PySem.W.keepIn K (.ref f__law_asked) = true)
    (a_law : PySem.W.nsIn K mainGlobals "law" = some (some (.ref f_law)))
    (l_law : K.lookup f_law = some ⟨oc_law, od_law, .func (PySem.W.fnOf "law" "law" (defArgs s_law) (defBody s_law) (defScope s_law) .none kV_law dc_law pm_law an_law cd_law ct_law), sl_law⟩)
    (c_law : PySem.W.codeIn K cd_law "law" = true) (k_law : PySem.W.keepIn K (.ref f_law) = true)
    (z_abs : PySem.W.nsIn K mainGlobals "abs" = some none)
    (z_bool : PySem.W.nsIn K mainGlobals "bool" = some none)
    (z_enumerate : PySem.W.nsIn K mainGlobals "enumerate" = some none)
    (z_int : PySem.W.nsIn K mainGlobals "int" = some none)
    (z_isinstance : PySem.W.nsIn K mainGlobals "isinstance" = some none)
    (z_len : PySem.W.nsIn K mainGlobals "len" = some none)
    (z_list : PySem.W.nsIn K mainGlobals "list" = some none)
    (z_range : PySem.W.nsIn K mainGlobals "range" = some none)
    (z_set : PySem.W.nsIn K mainGlobals "set" = some none)
    (z_str : PySem.W.nsIn K mainGlobals "str" = some none)
    (z_sum : PySem.W.nsIn K mainGlobals "sum" = some none)
    (z_tuple : PySem.W.nsIn K mainGlobals "tuple" = some none)
    (y_gcd : PySem.W.nsIn K mainGlobals "gcd" = some (some (.builtin "math.gcd")))
    (g_LEAST_FACES : PySem.W.nsIn K mainGlobals "LEAST_FACES" = some (some (.int 2 t_LEAST_FACES)))
    (g_MOST_FACES : PySem.W.nsIn K mainGlobals "MOST_FACES" = some (some (.int 5 t_MOST_FACES)))
    (g_MOST_WEIGHT : PySem.W.nsIn K mainGlobals "MOST_WEIGHT" = some (some (.int 5 t_MOST_WEIGHT)))
    (aX_ThrowError : PySem.W.nsIn K mainGlobals "ThrowError" = some (some (.ref c_ThrowError)))
    (eX_ThrowError : PySem.W.subIn K (.ref c_ThrowError) (.type "BaseException") = some true) (tX_ThrowError : PySem.W.typeIn K (.ref c_ThrowError) = some (.type "type")) (hX_ThrowError : PySem.W.hasDictIn K c_ThrowError = true) (oX_ThrowError : PySem.W.isClsIn K c_ThrowError = true)
    (gaX_ThrowError : PySem.W.findIn K (.ref c_ThrowError) "__getattribute__" = some (some (.builtin "BaseException.__getattribute__"))) (ggX_ThrowError : PySem.W.findIn K (.ref c_ThrowError) "__getattr__" = some none)
    (nX_ThrowError_at : PySem.W.findIn K (.ref c_ThrowError) "at" = some none)
    (nX_ThrowError_word : PySem.W.findIn K (.ref c_ThrowError) "word" = some none)
    (aX_BadDie : PySem.W.nsIn K mainGlobals "BadDie" = some (some (.ref c_BadDie)))
    (eX_BadDie : PySem.W.subIn K (.ref c_BadDie) (.type "BaseException") = some true) (tX_BadDie : PySem.W.typeIn K (.ref c_BadDie) = some (.type "type")) (hX_BadDie : PySem.W.hasDictIn K c_BadDie = true) (oX_BadDie : PySem.W.isClsIn K c_BadDie = true)
    (gaX_BadDie : PySem.W.findIn K (.ref c_BadDie) "__getattribute__" = some (some (.builtin "BaseException.__getattribute__"))) (ggX_BadDie : PySem.W.findIn K (.ref c_BadDie) "__getattr__" = some none)
    (nX_BadDie_at : PySem.W.findIn K (.ref c_BadDie) "at" = some none)
    (nX_BadDie_word : PySem.W.findIn K (.ref c_BadDie) "word" = some none)
    (xX_BadDie : K.lookup c_BadDie = some (excClassObj nm_BadDie qn_BadDie c_BadDie N_BadDie bs_BadDie bm_BadDie true sn_BadDie sub_BadDie ab_BadDie col_BadDie dd_BadDie m0_BadDie m1_BadDie m2_BadDie m3_BadDie m5_BadDie "ValueError.__new__"))
    (rX_BadDie : PySem.HandSPX.refsVE bm_BadDie = true) (sX_BadDie : PySem.W.findIn K (.ref c_BadDie) "__setattr__" = some (some (.builtin "object.__setattr__"))) (kX_BadDie : PySem.W.keepIn K (.ref c_BadDie) = true)
    (iX_BadDie : PySem.W.findIn K (.ref c_BadDie) "__init__" = some (some (.ref i_BadDie))) (fX_BadDie : PySem.W.typeIn K (.ref i_BadDie) = some (.type "function"))
    (lX_BadDie : K.lookup i_BadDie = some ⟨oc_BadDie, od_BadDie, .func (PySem.W.fnX "__init__" "BadDie.__init__" (defArgs si_BadDie) (defBody si_BadDie) (defScope si_BadDie) [("__class__", cc_BadDie)] .none kV_BadDie dc_BadDie pm_BadDie an_BadDie (.ref cda_BadDie) ct_BadDie), sl_BadDie⟩) (dX_BadDie : PySem.W.codeIn K (.ref cda_BadDie) "BadDie.__init__" = true)
    (jX_BadDie : K.lookup cda_BadDie = some ⟨ccl_BadDie, cdd_BadDie, .fields vs_BadDie, ccs_BadDie⟩) (vX_BadDie : vs_BadDie[2]? = some (.str file_BadDie tf_BadDie)) (pX_BadDie : ((l.prog.main.file : Str) == file_BadDie) = true)
    (ceX_BadDie : K.lookup cc_BadDie = some ⟨cl_BadDie, cld_BadDie, .cell (some (.ref c_BadDie)), csl_BadDie⟩) (suX_BadDie : PySem.W.ks_superIn K c_BadDie c_BadDie "__init__" = some (some (.builtin "ValueError.__init__")))
    (owX_BadDie : PySem.W.mroIn K c_BadDie (.ref c_BadDie) = some true) (veX_BadDie : PySem.W.subIn K (.ref c_BadDie) (.type "ValueError") = some true)
    (bX_BadDie_ThrowError : PySem.W.subIn K (.ref c_BadDie) (.ref c_ThrowError) = some true)
    (bX_BadDie_BadDie : PySem.W.subIn K (.ref c_BadDie) (.ref c_BadDie) = some true)
    (opq : PySem.W.nsIn K cStatics "thirdparty.any" = some none) (nosup : PySem.W.nsIn K mainGlobals "super" = some none) (topno : (l.prog.main.scope.names.lookup ("super" : Str)).isSome = false) :
    ∃ fd : FuncData, (∀ (s : Shared) (v : Value), BindsTo s fd ⟨[v], []⟩ [("script", v)]) ∧ ∀ base : Heap, K.In base → base.Ns mainGlobals mg → FnOk l.prog w K mg base (L2.CX l.prog w) 6 fa fd ["script"] (spEnd K) := by
  obtain rfl : f_law = fa := (Value.ref.inj (Option.some.inj (hfa.symm.trans (PySem.W.mg_of X G a_law)))).symm
  have F_is_whole := fun_mk (st := s_is_whole) l_is_whole c_is_whole k_is_whole
  have b_is_whole := F_is_whole.binds (ps := ["value"]) fun _ _ _ _ _ _ us hl => match us, hl with | [_], _ => rfl
  have F_is_between := fun_mk (st := s_is_between) l_is_between c_is_between k_is_between
  have b_is_between := F_is_between.binds (ps := ["value", "least", "most"]) fun _ _ _ _ _ _ us hl => match us, hl with | [_, _, _], _ => rfl
  have F_common_factor := fun_mk (st := s_common_factor) l_common_factor c_common_factor k_common_factor
  have b_common_factor := F_common_factor.binds (ps := ["numbers"]) fun _ _ _ _ _ _ us hl => match us, hl with | [_], _ => rfl
  have F_check_die := fun_mk (st := s_check_die) l_check_die c_check_die k_check_die
  have b_check_die := F_check_die.binds (ps := ["thing"]) fun _ _ _ _ _ _ us hl => match us, hl with | [_], _ => rfl
  have F_lowest_die := fun_mk (st := s_lowest_die) l_lowest_die c_lowest_die k_lowest_die
  have b_lowest_die := F_lowest_die.binds (ps := ["weights"]) fun _ _ _ _ _ _ us hl => match us, hl with | [_], _ => rfl
  have F_turned_die := fun_mk (st := s_turned_die) l_turned_die c_turned_die k_turned_die
  have b_turned_die := F_turned_die.binds (ps := ["die", "many"]) fun _ _ _ _ _ _ us hl => match us, hl with | [_, _], _ => rfl
  have F_mixed_die := fun_mk (st := s_mixed_die) l_mixed_die c_mixed_die k_mixed_die
  have b_mixed_die := F_mixed_die.binds (ps := ["die", "places"]) fun _ _ _ _ _ _ us hl => match us, hl with | [_, _], _ => rfl
  have F_die_total := fun_mk (st := s_die_total) l_die_total c_die_total k_die_total
  have b_die_total := F_die_total.binds (ps := ["die"]) fun _ _ _ _ _ _ us hl => match us, hl with | [_], _ => rfl
  have F_light_faces := fun_mk (st := s_light_faces) l_light_faces c_light_faces k_light_faces
  have b_light_faces := F_light_faces.binds (ps := ["die"]) fun _ _ _ _ _ _ us hl => match us, hl with | [_], _ => rfl
  have F_die_form := fun_mk (st := s_die_form) l_die_form c_die_form k_die_form
  have b_die_form := F_die_form.binds (ps := ["die"]) fun _ _ _ _ _ _ us hl => match us, hl with | [_], _ => rfl
  have F__law_purse := fun_mk (st := s__law_purse) l__law_purse c__law_purse k__law_purse
  have b__law_purse := F__law_purse.binds (ps := ["script"]) fun _ _ _ _ _ _ us hl => match us, hl with | [_], _ => rfl
  have F__law_spend := fun_mk (st := s__law_spend) l__law_spend c__law_spend k__law_spend
  have b__law_spend := F__law_spend.binds (ps := ["purse", "many"]) fun _ _ _ _ _ _ us hl => match us, hl with | [_, _], _ => rfl
  have F__law_one := fun_mk (st := s__law_one) l__law_one c__law_one k__law_one
  have b__law_one := F__law_one.binds (ps := ["purse", "row"]) fun _ _ _ _ _ _ us hl => match us, hl with | [_, _], _ => rfl
  have F__law_same := fun_mk (st := s__law_same) l__law_same c__law_same k__law_same
  have b__law_same := F__law_same.binds (ps := ["told", "due"]) fun _ _ _ _ _ _ us hl => match us, hl with | [_, _], _ => rfl
  have F__law_common := fun_mk (st := s__law_common) l__law_common c__law_common k__law_common
  have b__law_common := F__law_common.binds (ps := ["numbers"]) fun _ _ _ _ _ _ us hl => match us, hl with | [_], _ => rfl
  have F__law_die := fun_mk (st := s__law_die) l__law_die c__law_die k__law_die
  have b__law_die := F__law_die.binds (ps := ["purse"]) fun _ _ _ _ _ _ us hl => match us, hl with | [_], _ => rfl
  have F__law_due := fun_mk (st := s__law_due) l__law_due c__law_due k__law_due
  have b__law_due := F__law_due.binds (ps := ["weights"]) fun _ _ _ _ _ _ us hl => match us, hl with | [_], _ => rfl
  have F__law_told := fun_mk (st := s__law_told) l__law_told c__law_told k__law_told
  have b__law_told := F__law_told.binds (ps := ["weights"]) fun _ _ _ _ _ _ us hl => match us, hl with | [_], _ => rfl
  have F__law_weights := fun_mk (st := s__law_weights) l__law_weights c__law_weights k__law_weights
  have b__law_weights := F__law_weights.binds (ps := ["purse", "die"]) fun _ _ _ _ _ _ us hl => match us, hl with | [_, _], _ => rfl
  have F__law_asked := fun_mk (st := s__law_asked) l__law_asked c__law_asked k__law_asked
  have b__law_asked := F__law_asked.binds (ps := ["purse", "die"]) fun _ _ _ _ _ _ us hl => match us, hl with | [_, _], _ => rfl
  have F_law := fun_mk (st := s_law) l_law c_law k_law
  have b_law := F_law.binds (ps := ["script"]) fun _ _ _ _ _ _ us hl => match us, hl with | [_], _ => rfl
  have xf_ThrowError : XF K ["at", "word"] c_ThrowError := ⟨⟨gaX_ThrowError, ggX_ThrowError, eX_ThrowError, hX_ThrowError⟩, by simp only [List.forall_mem_cons]; exact ⟨nX_ThrowError_at, nX_ThrowError_word,  fun _ h => by cases h⟩⟩
  have xf_BadDie : XF K ["at", "word"] c_BadDie := ⟨⟨gaX_BadDie, ggX_BadDie, eX_BadDie, hX_BadDie⟩, by simp only [List.forall_mem_cons]; exact ⟨nX_BadDie_at, nX_BadDie_word,  fun _ h => by cases h⟩⟩
  have Z_BadDie : XTxt l.prog K mg c_BadDie i_BadDie cda_BadDie cc_BadDie := ⟨⟨⟨nm_BadDie, qn_BadDie, N_BadDie, bs_BadDie, bm_BadDie, sn_BadDie, sub_BadDie, ab_BadDie, col_BadDie, dd_BadDie, m0_BadDie, m1_BadDie, m2_BadDie, m3_BadDie, m5_BadDie, xX_BadDie, rX_BadDie⟩, sX_BadDie, eX_BadDie, tX_BadDie, kX_BadDie⟩, iX_BadDie, fX_BadDie, ⟨_, _, _, _, _, _, jX_BadDie, vX_BadDie, pX_BadDie⟩, ⟨_, _, _, ceX_BadDie⟩, suX_BadDie, owX_BadDie, veX_BadDie, opq, PySem.W.mg_none_of X G nosup, topno⟩
  have ri_BadDie := fun (w : World) (base : Heap) => init2_ok (k := 0) (w := w) (mg := mg) (base := base) Z_BadDie lX_BadDie dX_BadDie rfl rfl (by decide) rfl rfl rfl (by decide +kernel) rfl rfl rfl rfl rfl (by decide) (by decide) nX_BadDie_at nX_BadDie_word (fun L => ⟨_, rfl⟩)
  let T : Tx l.prog K mg := {
    c_ThrowError := c_ThrowError, gC_ThrowError := PySem.W.mg_of X G aX_ThrowError, xf_ThrowError := xf_ThrowError
    c_BadDie := c_BadDie, gC_BadDie := PySem.W.mg_of X G aX_BadDie, xf_BadDie := xf_BadDie
    isa_ThrowError_ok := isa_hit (PySem.W.mg_of X G aX_BadDie) (exm_of eX_ThrowError oX_ThrowError tX_ThrowError bX_BadDie_ThrowError) xf_BadDie (isa_skip (by decide) (isa_nil))
    isa_BadDie_ok := isa_skip (by decide) (isa_hit (PySem.W.mg_of X G aX_BadDie) (exm_of eX_BadDie oX_BadDie tX_BadDie bX_BadDie_BadDie) xf_BadDie (isa_nil))
    i_BadDie := i_BadDie, fd_BadDie := _, oT_BadDie := Z_BadDie.T, ii_BadDie := iX_BadDie, it_BadDie := fX_BadDie, ri_BadDie := ri_BadDie
    ib_BadDie := .all fun us hl => match us, hl with | [_, _, _], _ => rfl
    a_is_whole := f_is_whole, d_is_whole := _, F_is_whole := F_is_whole, m_is_whole := PySem.W.mg_of X G a_is_whole, b_is_whole := b_is_whole
    a_is_between := f_is_between, d_is_between := _, F_is_between := F_is_between, m_is_between := PySem.W.mg_of X G a_is_between, b_is_between := b_is_between
    a_common_factor := f_common_factor, d_common_factor := _, F_common_factor := F_common_factor, m_common_factor := PySem.W.mg_of X G a_common_factor, b_common_factor := b_common_factor
    a_check_die := f_check_die, d_check_die := _, F_check_die := F_check_die, m_check_die := PySem.W.mg_of X G a_check_die, b_check_die := b_check_die
    a_lowest_die := f_lowest_die, d_lowest_die := _, F_lowest_die := F_lowest_die, m_lowest_die := PySem.W.mg_of X G a_lowest_die, b_lowest_die := b_lowest_die
    a_turned_die := f_turned_die, d_turned_die := _, F_turned_die := F_turned_die, m_turned_die := PySem.W.mg_of X G a_turned_die, b_turned_die := b_turned_die
    a_mixed_die := f_mixed_die, d_mixed_die := _, F_mixed_die := F_mixed_die, m_mixed_die := PySem.W.mg_of X G a_mixed_die, b_mixed_die := b_mixed_die
    a_die_total := f_die_total, d_die_total := _, F_die_total := F_die_total, m_die_total := PySem.W.mg_of X G a_die_total, b_die_total := b_die_total
    a_light_faces := f_light_faces, d_light_faces := _, F_light_faces := F_light_faces, m_light_faces := PySem.W.mg_of X G a_light_faces, b_light_faces := b_light_faces
    a_die_form := f_die_form, d_die_form := _, F_die_form := F_die_form, m_die_form := PySem.W.mg_of X G a_die_form, b_die_form := b_die_form
    a__law_purse := f__law_purse, d__law_purse := _, F__law_purse := F__law_purse, m__law_purse := PySem.W.mg_of X G a__law_purse, b__law_purse := b__law_purse
    a__law_spend := f__law_spend, d__law_spend := _, F__law_spend := F__law_spend, m__law_spend := PySem.W.mg_of X G a__law_spend, b__law_spend := b__law_spend
    a__law_one := f__law_one, d__law_one := _, F__law_one := F__law_one, m__law_one := PySem.W.mg_of X G a__law_one, b__law_one := b__law_one
    a__law_same := f__law_same, d__law_same := _, F__law_same := F__law_same, m__law_same := PySem.W.mg_of X G a__law_same, b__law_same := b__law_same
    a__law_common := f__law_common, d__law_common := _, F__law_common := F__law_common, m__law_common := PySem.W.mg_of X G a__law_common, b__law_common := b__law_common
    a__law_die := f__law_die, d__law_die := _, F__law_die := F__law_die, m__law_die := PySem.W.mg_of X G a__law_die, b__law_die := b__law_die
    a__law_due := f__law_due, d__law_due := _, F__law_due := F__law_due, m__law_due := PySem.W.mg_of X G a__law_due, b__law_due := b__law_due
    a__law_told := f__law_told, d__law_told := _, F__law_told := F__law_told, m__law_told := PySem.W.mg_of X G a__law_told, b__law_told := b__law_told
    a__law_weights := f__law_weights, d__law_weights := _, F__law_weights := F__law_weights, m__law_weights := PySem.W.mg_of X G a__law_weights, b__law_weights := b__law_weights
    a__law_asked := f__law_asked, d__law_asked := _, F__law_asked := F__law_asked, m__law_asked := PySem.W.mg_of X G a__law_asked, b__law_asked := b__law_asked
    a_law := f_law, d_law := _, F_law := F_law, m_law := PySem.W.mg_of X G a_law, b_law := b_law
    n_abs := PySem.W.mg_none_of X G z_abs
    n_bool := PySem.W.mg_none_of X G z_bool
    n_enumerate := PySem.W.mg_none_of X G z_enumerate
    n_int := PySem.W.mg_none_of X G z_int
    n_isinstance := PySem.W.mg_none_of X G z_isinstance
    n_len := PySem.W.mg_none_of X G z_len
    n_list := PySem.W.mg_none_of X G z_list
    n_range := PySem.W.mg_none_of X G z_range
    n_set := PySem.W.mg_none_of X G z_set
    n_str := PySem.W.mg_none_of X G z_str
    n_sum := PySem.W.mg_none_of X G z_sum
    n_tuple := PySem.W.mg_none_of X G z_tuple
    i_gcd := PySem.W.mg_of X G y_gcd
    t_LEAST_FACES := t_LEAST_FACES, g_LEAST_FACES := PySem.W.mg_of X G g_LEAST_FACES
    t_MOST_FACES := t_MOST_FACES, g_MOST_FACES := PySem.W.mg_of X G g_MOST_FACES
    t_MOST_WEIGHT := t_MOST_WEIGHT, g_MOST_WEIGHT := PySem.W.mg_of X G g_MOST_WEIGHT
  }
  exact ⟨_, fun s v => .of_eq rfl, fun base _ _ => (ok_law T).imp (sp_end prBody_mono law)⟩
end L_throwntrue_k01_die_edits
set_option linter.all false
set_option maxRecDepth 100000
/-! what the defs of the text ask, on values alone (printed by gen2.py) -/
namespace L_throwntrue_k01_die_edits
open PySem PD
/-- slots: 0 value -/
def v_is_whole : VS := tRet (vAndV (vIsi .tint (vVar 0)) (vNotV (vIsi .tbool (vVar 0))))
def w_is_whole : VPr := vBody 1 0 v_is_whole
/-- slots: 0 value, 1 least, 2 most -/
def v_is_between : VS := tRet (vAndV (vCall w_is_whole (vCons (vVar 0) (vNil))) (vChain oLe oLe (vVar 1) (vVar 0) (vVar 2)))
def w_is_between : VPr := vBody 3 0 v_is_between
/-- slots: 0 numbers, 1 common, 2 number -/
def v_common_factor : VS := tSeq (tAsg (vC (.int 0)) (hName 1)) (tSeq (tFor (kSeq (vVar 0)) (hName 2) (tAsg (vArgs bGcd (vCons (vVar 1) (vCons (vVar 2) (vNil)))) (hName 1))) (tRet (vVar 1)))
def w_common_factor : VPr := vBody 1 2 v_common_factor
/-- slots: 0 thing, 1 at, 2 weight -/
def v_check_die : VS := tSeq (tIf (vNotT (vTest (vIsi .ttuple (vVar 0)))) (tRaise "BadDie" ["at", "word"] (vCons (v1 oNeg (vC (.int 1))) (vCons (vC (.str "shape")) (vNil)))) (tNext)) (tSeq (tIf (vNotT (vTest (vChain oLe oLe (vC (.int 2)) (vArgs bLen (vCons (vVar 0) (vNil))) (vC (.int 5))))) (tRaise "BadDie" ["at", "word"] (vCons (v1 oNeg (vC (.int 1))) (vCons (vC (.str "many")) (vNil)))) (tNext)) (tSeq (tFor (kEnum (vVar 0)) (hTup [1, 2]) (tIf (vNotT (vTest (vCall w_is_between (vCons (vVar 2) (vCons (vC (.int 1)) (vCons (vC (.int 5)) (vNil))))))) (tRaise "BadDie" ["at", "word"] (vCons (vVar 1) (vCons (vC (.str "weight")) (vNil)))) (tNext))) (tSeq (tIf (vTest (v2 oGt (v1 oLenSet (vVar 0)) (vC (.int 2)))) (tRaise "BadDie" ["at", "word"] (vCons (v1 oNeg (vC (.int 1))) (vCons (vC (.str "sizes")) (vNil)))) (tNext)) (tSeq (tIf (vTest (v2 oGt (vCall w_common_factor (vCons (vVar 0) (vNil))) (vC (.int 1)))) (tRaise "BadDie" ["at", "word"] (vCons (v1 oNeg (vC (.int 1))) (vCons (vC (.str "common")) (vNil)))) (tNext)) (tRet (vArgs bSum (vCons (vVar 0) (vNil))))))))
def w_check_die : VPr := vBody 1 2 v_check_die
/-- slots: 0 weights, 1 common, 2 die, 3 weight -/
def v_lowest_die : VS := tSeq (tAsg (vCall w_common_factor (vCons (vVar 0) (vNil))) (hName 1)) (tSeq (tAsg (vArgs bTuple (vCons (vLc (kSeq (vVar 0)) (hName 3) (vYes) (v2 oDiv (vVar 3) (vVar 1)) [3]) (vNil))) (hName 2)) (tSeq (tDrop (vCall w_check_die (vCons (vVar 2) (vNil)))) (tRet (vVar 2))))
def w_lowest_die : VPr := vBody 1 3 v_lowest_die
/-- slots: 0 die, 1 many, 2 cut -/
def v_turned_die : VS := tSeq (tAsg (v2 oMod (vVar 1) (vArgs bLen (vCons (vVar 0) (vNil)))) (hName 2)) (tRet (v2 oAdd (vCut (vVar 0) (some (vVar 2)) none) (vCut (vVar 0) none (some (vVar 2)))))
def w_turned_die : VPr := vBody 2 1 v_turned_die
/-- slots: 0 die, 1 places, 2 weights, 3 face, 4 place -/
def v_mixed_die : VS := tSeq (tAsg (vArgs bList (vCons (vVar 0) (vNil))) (hName 2)) (tSeq (tFor (kEnum (vVar 1)) (hTup [3, 4]) (tSet 2 (vVar 4) (v2 oIx (vVar 0) (vVar 3)))) (tRet (vArgs bTuple (vCons (vVar 2) (vNil)))))
def w_mixed_die : VPr := vBody 2 3 v_mixed_die
/-- slots: 0 die -/
def v_die_total : VS := tRet (vArgs bSum (vCons (vVar 0) (vNil)))
def w_die_total : VPr := vBody 1 0 v_die_total
/-- slots: 0 die, 1 face, 2 weight -/
def v_light_faces : VS := tRet (vArgs bTuple (vCons (vLc (kEnum (vVar 0)) (hTup [1, 2]) (vTest (v2 oNe (vVar 2) (v2 oIx (vVar 0) (vC (.int 0))))) (vVar 1) [1, 2]) (vNil)))
def w_light_faces : VPr := vBody 1 2 v_light_faces
/-- slots: 0 die, 1 light, 2 weight -/
def v_die_form : VS := tSeq (tAsg (vCall w_light_faces (vCons (vVar 0) (vNil))) (hName 1)) (tSeq (tAsg (vIf (vTest (v2 oGt (vArgs bLen (vCons (vVar 1) (vNil))) (vC (.int 0)))) (v2 oIx (vVar 0) (v2 oIx (vVar 1) (vC (.int 0)))) (vC (.int 1))) (hName 2)) (tRet (vTup (vCons (v2 oIx (vVar 0) (vC (.int 0))) (vCons (v2 oSub (vArgs bLen (vCons (vVar 0) (vNil))) (vArgs bLen (vCons (vVar 1) (vNil)))) (vCons (vVar 2) (vCons (vArgs bLen (vCons (vVar 1) (vNil))) (vNil))))))))
def w_die_form : VPr := vBody 1 2 v_die_form
abbrev w__law_spend : VPr := spendV
/-- slots: 0 purse, 1 row -/
def v__law_one : VS := tRet (v2 oIx (vVar 1) (vCall w__law_spend (vCons (vVar 0) (vCons (vArgs bLen (vCons (vVar 1) (vNil))) (vNil)))))
def w__law_one : VPr := vBody 2 0 v__law_one
abbrev w__law_same : VPr := sameV
abbrev w__law_common : VPr := commonV
/-- slots: 0 purse, 1 many, 2 one, 3 other, 4 habit, 5 lone, 6 told, 7 at, 8 common, 9 weight -/
def v__law_die : VS := tSeq (tAsg (v2 oAdd (vC (.int 2)) (vCall w__law_spend (vCons (vVar 0) (vCons (vC (.int 4)) (vNil))))) (hName 1)) (tSeq (tAsg (v2 oAdd (vC (.int 1)) (vCall w__law_spend (vCons (vVar 0) (vCons (vC (.int 5)) (vNil))))) (hName 2)) (tSeq (tAsg (v2 oAdd (vC (.int 1)) (vCall w__law_spend (vCons (vVar 0) (vCons (vC (.int 5)) (vNil))))) (hName 3)) (tSeq (tAsg (vCall w__law_spend (vCons (vVar 0) (vCons (vC (.int 4)) (vNil)))) (hName 4)) (tSeq (tAsg (vCall w__law_spend (vCons (vVar 0) (vCons (vVar 1) (vNil)))) (hName 5)) (tSeq (tAsg (vLst (vNil)) (hName 6)) (tSeq (tFor (kRng1 (vVar 1)) (hName 7) (tApp 6 (v2 oIx (vLst (vCons (vIf (vTest (v2 oEq (vVar 7) (vVar 5))) (vVar 3) (vVar 2)) (vCons (vIf (vTest (v2 oEq (vVar 7) (vVar 5))) (vVar 2) (vVar 3)) (vCons (vVar 2) (vCons (vCall w__law_one (vCons (vVar 0) (vCons (vLst (vCons (vVar 2) (vCons (vVar 3) (vNil)))) (vNil)))) (vNil)))))) (vVar 4)))) (tSeq (tAsg (vCall w__law_common (vCons (vVar 6) (vNil))) (hName 8)) (tRet (vArgs bTuple (vCons (vLc (kSeq (vVar 6)) (hName 9) (vYes) (v2 oDiv (vVar 9) (vVar 8)) [9]) (vNil)))))))))))
def w__law_die : VPr := vBody 1 9 v__law_die
/-- slots: 0 weights, 1 common, 2 told, 3 at, 4 weight -/
def v__law_due : VS := tSeq (tAsg (vCall w__law_common (vCons (vVar 0) (vNil))) (hName 1)) (tSeq (tAsg (vArgs bTuple (vCons (vLc (kSeq (vVar 0)) (hName 4) (vYes) (v2 oDiv (vVar 4) (vVar 1)) [4]) (vNil))) (hName 2)) (tSeq (tFor (kRng1 (vArgs bLen (vCons (vVar 2) (vNil)))) (hName 3) (tIf (vTest (v2 oGt (v2 oIx (vVar 2) (vVar 3)) (vC (.int 5)))) (tRet (vTup (vCons (vC (.str "bad")) (vCons (vVar 3) (vCons (vC (.str "weight")) (vNil)))))) (tNext))) (tRet (vIf (vTest (v2 oGt (v1 oLenSet (vVar 2)) (vC (.int 2)))) (vTup (vCons (vC (.str "bad")) (vCons (v1 oNeg (vC (.int 1))) (vCons (vC (.str "sizes")) (vNil))))) (vTup (vCons (vC (.str "told")) (vCons (vVar 2) (vNil))))))))
def w__law_due : VPr := vBody 1 4 v__law_due
/-- slots: 0 weights, 1 e -/
def v__law_told : VS := tTry isaT (tRet (vTup (vCons (vC (.str "told")) (vCons (vCall w_lowest_die (vCons (vVar 0) (vNil))) (vNil))))) [("BadDie", some 1, fun a d => tRet (vTup (vCons (vC (.str "bad")) (vCons (vFld a d "at" (vVar 1)) (vCons (vFld a d "word" (vVar 1)) (vNil)))))), ("ThrowError", none, fun a d => tRet (vTup (vCons (vC (.str "other")) (vNil))))]
def w__law_told : VPr := vBody 1 1 v__law_told
/-- slots: 0 purse, 1 die, 2 times, 3 weights, 4 kind, 5 weight, 6 at -/
def v__law_weights : VS := tSeq (tAsg (v2 oAdd (vC (.int 1)) (vCall w__law_spend (vCons (vVar 0) (vCons (vC (.int 200)) (vNil))))) (hName 2)) (tSeq (tAsg (vLc (kSeq (vVar 1)) (hName 5) (vYes) (v2 oMul (vVar 5) (vVar 2)) [5]) (hName 3)) (tSeq (tAsg (vCall w__law_spend (vCons (vVar 0) (vCons (vC (.int 4)) (vNil)))) (hName 4)) (tSeq (tIf (vTest (v2 oEq (vVar 4) (vC (.int 1)))) (tSet 3 (vCall w__law_spend (vCons (vVar 0) (vCons (vArgs bLen (vCons (vVar 3) (vNil))) (vNil)))) (v2 oAdd (vC (.int 1)) (vCall w__law_spend (vCons (vVar 0) (vCons (vC (.int 1000)) (vNil)))))) (tNext)) (tSeq (tIf (vTest (v2 oEq (vVar 4) (vC (.int 2)))) (tSet 3 (vCall w__law_spend (vCons (vVar 0) (vCons (vArgs bLen (vCons (vVar 3) (vNil))) (vNil)))) (v2 oMul (vVar 2) (v2 oAdd (vC (.int 1)) (vCall w__law_spend (vCons (vVar 0) (vCons (vC (.int 5)) (vNil))))))) (tNext)) (tSeq (tIf (vTest (v2 oEq (vVar 4) (vC (.int 3)))) (tAsg (vLc (kSeq (vVar 1)) (hName 6) (vYes) (v2 oAdd (vC (.int 1)) (vCall w__law_spend (vCons (vVar 0) (vCons (vCall w__law_one (vCons (vVar 0) (vCons (vLst (vCons (vC (.int 3)) (vCons (vC (.int 7)) (vCons (vC (.int 1000)) (vNil))))) (vNil)))) (vNil))))) [6]) (hName 3)) (tNext)) (tRet (vArgs bTuple (vCons (vVar 3) (vNil)))))))))
def w__law_weights : VPr := vBody 2 5 v__law_weights
/-- slots: 0 purse, 1 die, 2 many, 3 turned, 4 left, 5 places, 6 mixed, 7 at -/
def v__law_asked : VS := tSeq (tAsg (vCall w__law_one (vCons (vVar 0) (vCons (vLst (vCons (vC (.int 0)) (vCons (vC (.int 1)) (vCons (v2 oSub (vArgs bLen (vCons (vVar 1) (vNil))) (vC (.int 1))) (vCons (vArgs bLen (vCons (vVar 1) (vNil))) (vCons (vCall w__law_spend (vCons (vVar 0) (vCons (vC (.int 100)) (vNil)))) (vCons (v2 oAdd (v2 oPow (vC (.int 10)) (vC (.int 60))) (vCall w__law_spend (vCons (vVar 0) (vCons (vC (.int 5)) (vNil))))) (vNil)))))))) (vNil)))) (hName 2)) (tSeq (tAsg (vArgs bTuple (vCons (vLc (kRng1 (vArgs bLen (vCons (vVar 1) (vNil)))) (hName 7) (vYes) (v2 oIx (vVar 1) (v2 oMod (vArgs bInt (vCons (v2 oAdd (vVar 7) (vVar 2)) (vNil))) (vArgs bLen (vCons (vVar 1) (vNil))))) [7]) (vNil))) (hName 3)) (tSeq (tIf (vOrT (vNotT (vTest (vCall w__law_same (vCons (vCall w_turned_die (vCons (vVar 1) (vCons (vVar 2) (vNil)))) (vCons (vVar 3) (vNil)))))) (vNotT (vTest (vCall w__law_same (vCons (vCall w_die_form (vCons (vCall w_turned_die (vCons (vVar 1) (vCons (vArgs bLen (vCons (vVar 1) (vNil))) (vNil)))) (vNil))) (vCons (vCall w_die_form (vCons (vVar 1) (vNil))) (vNil))))))) (tRet (vC (.bl false))) (tNext)) (tSeq (tAsg (v1 oListR (vArgs bLen (vCons (vVar 1) (vNil)))) (hName 4)) (tSeq (tPopT 5 4 7 (kSeq (vVar 1)) (vCall w__law_spend (vCons (vVar 0) (vCons (vArgs bLen (vCons (vVar 4) (vNil))) (vNil))))) (tSeq (tAsg (v2 oMul (vLst (vCons (vC (.int 0)) (vNil))) (vArgs bLen (vCons (vVar 1) (vNil)))) (hName 6)) (tSeq (tFor (kRng1 (vArgs bLen (vCons (vVar 1) (vNil)))) (hName 7) (tSet 6 (v2 oIx (vVar 5) (vVar 7)) (v2 oIx (vVar 1) (vVar 7)))) (tRet (vCall w__law_same (vCons (vTup (vCons (vCall w_mixed_die (vCons (vVar 1) (vCons (vVar 5) (vNil)))) (vCons (vCall w_die_total (vCons (vVar 3) (vNil))) (vNil)))) (vCons (vTup (vCons (vArgs bTuple (vCons (vVar 6) (vNil))) (vCons (vArgs bSum (vCons (vVar 1) (vNil))) (vNil)))) (vNil)))))))))))
def w__law_asked : VPr := vBody 2 6 v__law_asked
/-- slots: 0 script, 1 purse, 2 lap, 3 die, 4 turn, 5 times, 6 weights, 7 weight -/
def v_law : VS := tSeq (tIf (vNotT (vTest (vCall w__law_same (vCons (vTup (vCons (vCall w_lowest_die (vCons (vTup (vCons (vC (.int 30)) (vCons (vC (.int 20)) (vNil)))) (vNil))) (vCons (vCall w_turned_die (vCons (vTup (vCons (vC (.int 1)) (vCons (vC (.int 2)) (vCons (vC (.int 2)) (vNil))))) (vCons (vC (.int 2)) (vNil)))) (vCons (vCall w_mixed_die (vCons (vTup (vCons (vC (.int 1)) (vCons (vC (.int 2)) (vCons (vC (.int 2)) (vNil))))) (vCons (vTup (vCons (vC (.int 2)) (vCons (vC (.int 0)) (vCons (vC (.int 1)) (vNil))))) (vNil)))) (vNil))))) (vCons (vTup (vCons (vTup (vCons (vC (.int 3)) (vCons (vC (.int 2)) (vNil)))) (vCons (vTup (vCons (vC (.int 2)) (vCons (vC (.int 1)) (vCons (vC (.int 2)) (vNil))))) (vCons (vTup (vCons (vC (.int 2)) (vCons (vC (.int 2)) (vCons (vC (.int 1)) (vNil))))) (vNil))))) (vNil)))))) (tRet (vC (.bl false))) (tNext)) (tSeq (tFor (kRng1 (vC (.int 4))) (hName 2) (tSeq (tAsg (vCall w__law_die (vCons (vVar 1) (vNil))) (hName 3)) (tSeq (tIf (vNotT (vTest (vCall w__law_asked (vCons (vVar 1) (vCons (vVar 3) (vNil)))))) (tRet (vC (.bl false))) (tNext)) (tSeq (tFor (kRng1 (vC (.int 3))) (hName 4) (tSeq (tAsg (vCall w__law_weights (vCons (vVar 1) (vCons (vVar 3) (vNil)))) (hName 6)) (tIf (vNotT (vTest (vCall w__law_same (vCons (vCall w__law_told (vCons (vVar 6) (vNil))) (vCons (vCall w__law_due (vCons (vVar 6) (vNil))) (vNil)))))) (tRet (vC (.bl false))) (tNext)))) (tSeq (tAsg (v2 oAdd (vC (.int 1)) (vCall w__law_spend (vCons (vVar 1) (vCons (vC (.int 100)) (vNil))))) (hName 5)) (tIf (vOrT (vNotT (vTest (vCall w__law_same (vCons (vCall w__law_told (vCons (vArgs bTuple (vCons (vLc (kSeq (vVar 3)) (hName 7) (vYes) (v2 oMul (vVar 7) (vVar 5)) [7]) (vNil))) (vNil))) (vCons (vTup (vCons (vC (.str "told")) (vCons (vVar 3) (vNil)))) (vNil)))))) (vTest (v2 oNe (v2 oIx (vCall w__law_told (vCons (vTup (vCons (vC (.int 7)) (vCons (v2 oAdd (v2 oMul (vVar 5) (vC (.int 7))) (v2 oMul (vC (.int 7)) (vC (.int 5)))) (vNil)))) (vNil))) (vC (.int 0))) (vC (.str "bad"))))) (tRet (vC (.bl false))) (tNext))))))) (tRet (vC (.bl true))))
theorem fs_is_whole : FSim [.b] .f p_is_whole w_is_whole := fsim_mk (ls := []) rfl rfl True.intro (by
  unfold b_is_whole v_is_whole
  exact ss_ret True.intro (se_and True.intro (se_fb (se_isi (se_varB (i := 0) True.intro))) (se_not (se_fb (se_isi (se_varB (i := 0) True.intro))))))
theorem fs_is_between : FSim [.b, .b, .b] .f p_is_between w_is_between := fsim_mk (ls := []) rfl rfl True.intro (by
  unfold b_is_between v_is_between
  exact ss_ret True.intro (se_and True.intro (se_fb (se_call fs_is_whole (sa_cons (c := .b) True.intro (se_varB (i := 0) True.intro) (sa_nil)))) (se_chain (op_cmp _) (op_cmp _) (se_varB (i := 1) True.intro) (se_varB (i := 0) True.intro) (se_varB (i := 2) True.intro))))
theorem fs_common_factor : FSim [.b] .s p_common_factor w_common_factor := fsim_mk (ls := [.s, .s]) rfl rfl True.intro (by
  unfold b_common_factor v_common_factor
  exact ss_seq (ss_asg (se_fs (se_c (by decide))) (sg_name (i := 1) rfl)) (ss_seq (ss_for (si_seqP (i := 0) rfl) (sg_name (i := 2) rfl) (ss_asg (se_fs (se_args opa_gcd (sa_cons (c := .b) True.intro (se_sb (se_varS (i := 1) rfl)) (sa_cons (c := .b) True.intro (se_sb (se_varS (i := 2) rfl)) (sa_nil))))) (sg_name (i := 1) rfl))) (ss_ret True.intro (se_varS (i := 1) rfl))))
theorem fs_check_die : FSim [.b] .f p_check_die w_check_die := fsim_mk (ls := [.s, .s]) rfl rfl True.intro (by
  unfold b_check_die v_check_die
  exact ss_seq (ss_if (st_not (st_test (se_fb (se_isi (se_varB (i := 0) True.intro))))) (ss_raise rfl (sa_cons (c := .s) True.intro (se_fs (se_1 op_neg (se_fb (se_c (by decide))))) (sa_cons (c := .s) True.intro (se_fs (se_c (by decide +kernel))) (sa_nil)))) (ss_next)) (ss_seq (ss_if (st_not (st_test (se_fb (se_chain (op_cmp _) (op_cmp _) (se_fb (se_c (by decide))) (se_fb (se_args opa_len (sa_cons (c := .b) True.intro (se_varB (i := 0) True.intro) (sa_nil)))) (se_fb (se_c (by decide))))))) (ss_raise rfl (sa_cons (c := .s) True.intro (se_fs (se_1 op_neg (se_fb (se_c (by decide))))) (sa_cons (c := .s) True.intro (se_fs (se_c (by decide +kernel))) (sa_nil)))) (ss_next)) (ss_seq (ss_for (si_enum (si_seqP (i := 0) rfl)) (sg_tup (is := [1, 2]) (by intro i h; simp only [List.mem_cons, List.not_mem_nil, or_false] at h; rcases h with rfl | rfl <;> rfl)) (ss_if (st_not (st_test (se_fb (se_call fs_is_between (sa_cons (c := .b) True.intro (se_sb (se_varS (i := 2) rfl)) (sa_cons (c := .b) True.intro (se_fb (se_c (by decide))) (sa_cons (c := .b) True.intro (se_fb (se_c (by decide))) (sa_nil)))))))) (ss_raise rfl (sa_cons (c := .s) True.intro (se_varS (i := 1) rfl) (sa_cons (c := .s) True.intro (se_fs (se_c (by decide +kernel))) (sa_nil)))) (ss_next))) (ss_seq (ss_if (st_test (se_fb (se_2 (op_cmp _) (se_fb (se_1 op_lenset (se_varB (i := 0) True.intro))) (se_fb (se_c (by decide)))))) (ss_raise rfl (sa_cons (c := .s) True.intro (se_fs (se_1 op_neg (se_fb (se_c (by decide))))) (sa_cons (c := .s) True.intro (se_fs (se_c (by decide +kernel))) (sa_nil)))) (ss_next)) (ss_seq (ss_if (st_test (se_fb (se_2 (op_cmp _) (se_sb (se_call fs_common_factor (sa_cons (c := .b) True.intro (se_varB (i := 0) True.intro) (sa_nil)))) (se_fb (se_c (by decide)))))) (ss_raise rfl (sa_cons (c := .s) True.intro (se_fs (se_1 op_neg (se_fb (se_c (by decide))))) (sa_cons (c := .s) True.intro (se_fs (se_c (by decide +kernel))) (sa_nil)))) (ss_next)) (ss_ret True.intro (se_args opa_sum (sa_cons (c := .b) True.intro (se_varB (i := 0) True.intro) (sa_nil)))))))))
theorem fs_lowest_die : FSim [.b] .s p_lowest_die w_lowest_die := fsim_mk (ls := [.s, .s, .s]) rfl rfl True.intro (by
  unfold b_lowest_die v_lowest_die
  exact ss_seq (ss_asg (se_call fs_common_factor (sa_cons (c := .b) True.intro (se_varB (i := 0) True.intro) (sa_nil))) (sg_name (i := 1) rfl)) (ss_seq (ss_asg (se_fs (se_args opa_tuple (sa_cons (c := .b) True.intro (se_fb (se_lc (by intro i h; simp only [List.mem_cons, List.not_mem_nil, or_false] at h; rcases h with rfl <;> rfl) (si_seqB (se_varB (i := 0) True.intro)) (sg_name (i := 3) rfl) (st_yes) (se_fs (se_2 op_div (se_sb (se_varS (i := 3) rfl)) (se_sb (se_varS (i := 1) rfl)))))) (sa_nil)))) (sg_name (i := 2) rfl)) (ss_seq (ss_drop (se_call fs_check_die (sa_cons (c := .b) True.intro (se_sb (se_varS (i := 2) rfl)) (sa_nil)))) (ss_ret True.intro (se_varS (i := 2) rfl)))))
theorem fs_turned_die : FSim [.b, .b] .f p_turned_die w_turned_die := fsim_mk (ls := [.s]) rfl rfl True.intro (by
  unfold b_turned_die v_turned_die
  exact ss_seq (ss_asg (se_fs (se_2 op_mod (se_varB (i := 1) True.intro) (se_fb (se_args opa_len (sa_cons (c := .b) True.intro (se_varB (i := 0) True.intro) (sa_nil)))))) (sg_name (i := 2) rfl)) (ss_ret True.intro (se_2 op_add (se_fb (se_cut10 (se_varB (i := 0) True.intro) (se_sb (se_varS (i := 2) rfl)))) (se_fb (se_cut01 (se_varB (i := 0) True.intro) (se_sb (se_varS (i := 2) rfl)))))))
theorem fs_mixed_die : FSim [.b, .b] .f p_mixed_die w_mixed_die := fsim_mk (ls := [.o, .s, .s]) rfl rfl True.intro (by
  unfold b_mixed_die v_mixed_die
  exact ss_seq (ss_asg (se_args opa_list (sa_cons (c := .b) True.intro (se_varB (i := 0) True.intro) (sa_nil))) (sg_own (i := 2) rfl)) (ss_seq (ss_for (si_enum (si_seqP (i := 1) rfl)) (sg_tup (is := [3, 4]) (by intro i h; simp only [List.mem_cons, List.not_mem_nil, or_false] at h; rcases h with rfl | rfl <;> rfl)) (ss_set (i := 2) rfl (se_sb (se_varS (i := 4) rfl)) (se_2 op_ix (se_varB (i := 0) True.intro) (se_sb (se_varS (i := 3) rfl))))) (ss_ret True.intro (se_args opa_tuple (sa_cons (c := .b) True.intro (se_varB (i := 2) True.intro) (sa_nil))))))
theorem fs_die_total : FSim [.b] .f p_die_total w_die_total := fsim_mk (ls := []) rfl rfl True.intro (by
  unfold b_die_total v_die_total
  exact ss_ret True.intro (se_args opa_sum (sa_cons (c := .b) True.intro (se_varB (i := 0) True.intro) (sa_nil))))
theorem fs_light_faces : FSim [.b] .f p_light_faces w_light_faces := fsim_mk (ls := [.s, .s]) rfl rfl True.intro (by
  unfold b_light_faces v_light_faces
  exact ss_ret True.intro (se_args opa_tuple (sa_cons (c := .b) True.intro (se_fb (se_lc (by intro i h; simp only [List.mem_cons, List.not_mem_nil, or_false] at h; rcases h with rfl | rfl <;> rfl) (si_enum (si_seqB (se_varB (i := 0) True.intro))) (sg_tup (is := [1, 2]) (by intro i h; simp only [List.mem_cons, List.not_mem_nil, or_false] at h; rcases h with rfl | rfl <;> rfl)) (st_test (se_fb (se_2 op_ne (se_sb (se_varS (i := 2) rfl)) (se_sb (se_2 op_ix (se_varB (i := 0) True.intro) (se_fb (se_c (by decide)))))))) (se_varS (i := 1) rfl))) (sa_nil))))
theorem fs_die_form : FSim [.b] .f p_die_form w_die_form := fsim_mk (ls := [.s, .s]) rfl rfl True.intro (by
  unfold b_die_form v_die_form
  exact ss_seq (ss_asg (se_fs (se_call fs_light_faces (sa_cons (c := .b) True.intro (se_varB (i := 0) True.intro) (sa_nil)))) (sg_name (i := 1) rfl)) (ss_seq (ss_asg (se_if (st_test (se_fb (se_2 (op_cmp _) (se_fb (se_args opa_len (sa_cons (c := .b) True.intro (se_sb (se_varS (i := 1) rfl)) (sa_nil)))) (se_fb (se_c (by decide)))))) (se_2 op_ix (se_varB (i := 0) True.intro) (se_sb (se_2 op_ix (se_sb (se_varS (i := 1) rfl)) (se_fb (se_c (by decide)))))) (se_fs (se_c (by decide)))) (sg_name (i := 2) rfl)) (ss_ret True.intro (se_tup rfl (sa_cons (c := .s) True.intro (se_2 op_ix (se_varB (i := 0) True.intro) (se_fb (se_c (by decide)))) (sa_cons (c := .s) True.intro (se_fs (se_2 op_sub (se_fb (se_args opa_len (sa_cons (c := .b) True.intro (se_varB (i := 0) True.intro) (sa_nil)))) (se_fb (se_args opa_len (sa_cons (c := .b) True.intro (se_sb (se_varS (i := 1) rfl)) (sa_nil)))))) (sa_cons (c := .s) True.intro (se_varS (i := 2) rfl) (sa_cons (c := .s) True.intro (se_fs (se_args opa_len (sa_cons (c := .b) True.intro (se_sb (se_varS (i := 1) rfl)) (sa_nil)))) (sa_nil)))))))))
theorem fs__law_spend : FSim [.u puK, .b] .f p__law_spend w__law_spend := fs_spend (sp_ok (a := 52361) (c := 6101) (m := 2147483563) (by decide) (by decide) (by decide))
theorem fs__law_one : FSim [.u puK, .b] .s p__law_one w__law_one := fsim_mk (ls := []) rfl rfl True.intro (by
  unfold b__law_one v__law_one
  exact ss_ret True.intro (se_2 op_ix (se_varB (i := 1) True.intro) (se_fb (se_call fs__law_spend (sa_cons (c := .u puK) True.intro (se_varU (i := 0) rfl) (sa_cons (c := .b) True.intro (se_fb (se_args opa_len (sa_cons (c := .b) True.intro (se_varB (i := 1) True.intro) (sa_nil)))) (sa_nil)))))))
theorem fs__law_same : FSim [.b, .b] .f p__law_same w__law_same := fs_same fun _ _ _ _ h1 h2 h3 q => same_ok h1 h2 h3 q
theorem fs__law_common : FSim [.b] .f p__law_common w__law_common := fs_common fun _ _ _ _ _ e hw h0 q => common_ok e hw h0 q
theorem fs__law_die : FSim [.u puK] .f p__law_die w__law_die := fsim_mk (ls := [.s, .s, .s, .s, .s, .o, .s, .s, .s]) rfl rfl True.intro (by
  unfold b__law_die v__law_die
  exact ss_seq (ss_asg (se_fs (se_2 op_add (se_fb (se_c (by decide))) (se_fb (se_call fs__law_spend (sa_cons (c := .u puK) True.intro (se_varU (i := 0) rfl) (sa_cons (c := .b) True.intro (se_fb (se_c (by decide))) (sa_nil))))))) (sg_name (i := 1) rfl)) (ss_seq (ss_asg (se_fs (se_2 op_add (se_fb (se_c (by decide))) (se_fb (se_call fs__law_spend (sa_cons (c := .u puK) True.intro (se_varU (i := 0) rfl) (sa_cons (c := .b) True.intro (se_fb (se_c (by decide))) (sa_nil))))))) (sg_name (i := 2) rfl)) (ss_seq (ss_asg (se_fs (se_2 op_add (se_fb (se_c (by decide))) (se_fb (se_call fs__law_spend (sa_cons (c := .u puK) True.intro (se_varU (i := 0) rfl) (sa_cons (c := .b) True.intro (se_fb (se_c (by decide))) (sa_nil))))))) (sg_name (i := 3) rfl)) (ss_seq (ss_asg (se_fs (se_call fs__law_spend (sa_cons (c := .u puK) True.intro (se_varU (i := 0) rfl) (sa_cons (c := .b) True.intro (se_fb (se_c (by decide))) (sa_nil))))) (sg_name (i := 4) rfl)) (ss_seq (ss_asg (se_fs (se_call fs__law_spend (sa_cons (c := .u puK) True.intro (se_varU (i := 0) rfl) (sa_cons (c := .b) True.intro (se_sb (se_varS (i := 1) rfl)) (sa_nil))))) (sg_name (i := 5) rfl)) (ss_seq (ss_asg (se_lst rfl (sa_nil)) (sg_own (i := 6) rfl)) (ss_seq (ss_for (si_rng1 (se_sb (se_varS (i := 1) rfl))) (sg_name (i := 7) rfl) (ss_app (i := 6) rfl (se_2 op_ix (se_fb (se_lst rfl (sa_cons (c := .s) True.intro (se_if (st_test (se_fb (se_2 op_eq (se_sb (se_varS (i := 7) rfl)) (se_sb (se_varS (i := 5) rfl))))) (se_varS (i := 3) rfl) (se_varS (i := 2) rfl)) (sa_cons (c := .s) True.intro (se_if (st_test (se_fb (se_2 op_eq (se_sb (se_varS (i := 7) rfl)) (se_sb (se_varS (i := 5) rfl))))) (se_varS (i := 2) rfl) (se_varS (i := 3) rfl)) (sa_cons (c := .s) True.intro (se_varS (i := 2) rfl) (sa_cons (c := .s) True.intro (se_call fs__law_one (sa_cons (c := .u puK) True.intro (se_varU (i := 0) rfl) (sa_cons (c := .b) True.intro (se_fb (se_lst rfl (sa_cons (c := .s) True.intro (se_varS (i := 2) rfl) (sa_cons (c := .s) True.intro (se_varS (i := 3) rfl) (sa_nil))))) (sa_nil)))) (sa_nil))))))) (se_sb (se_varS (i := 4) rfl))))) (ss_seq (ss_asg (se_fs (se_call fs__law_common (sa_cons (c := .b) True.intro (se_varB (i := 6) True.intro) (sa_nil)))) (sg_name (i := 8) rfl)) (ss_ret True.intro (se_args opa_tuple (sa_cons (c := .b) True.intro (se_fb (se_lc (by intro i h; simp only [List.mem_cons, List.not_mem_nil, or_false] at h; rcases h with rfl <;> rfl) (si_seqB (se_varB (i := 6) True.intro)) (sg_name (i := 9) rfl) (st_yes) (se_fs (se_2 op_div (se_sb (se_varS (i := 9) rfl)) (se_sb (se_varS (i := 8) rfl)))))) (sa_nil))))))))))))
theorem fs__law_due : FSim [.b] .f p__law_due w__law_due := fsim_mk (ls := [.s, .s, .s, .s]) rfl rfl True.intro (by
  unfold b__law_due v__law_due
  exact ss_seq (ss_asg (se_fs (se_call fs__law_common (sa_cons (c := .b) True.intro (se_varB (i := 0) True.intro) (sa_nil)))) (sg_name (i := 1) rfl)) (ss_seq (ss_asg (se_fs (se_args opa_tuple (sa_cons (c := .b) True.intro (se_fb (se_lc (by intro i h; simp only [List.mem_cons, List.not_mem_nil, or_false] at h; rcases h with rfl <;> rfl) (si_seqB (se_varB (i := 0) True.intro)) (sg_name (i := 4) rfl) (st_yes) (se_fs (se_2 op_div (se_sb (se_varS (i := 4) rfl)) (se_sb (se_varS (i := 1) rfl)))))) (sa_nil)))) (sg_name (i := 2) rfl)) (ss_seq (ss_for (si_rng1 (se_fb (se_args opa_len (sa_cons (c := .b) True.intro (se_sb (se_varS (i := 2) rfl)) (sa_nil))))) (sg_name (i := 3) rfl) (ss_if (st_test (se_fb (se_2 (op_cmp _) (se_sb (se_2 op_ix (se_sb (se_varS (i := 2) rfl)) (se_sb (se_varS (i := 3) rfl)))) (se_fb (se_c (by decide)))))) (ss_ret True.intro (se_tup rfl (sa_cons (c := .s) True.intro (se_fs (se_c (by decide +kernel))) (sa_cons (c := .s) True.intro (se_varS (i := 3) rfl) (sa_cons (c := .s) True.intro (se_fs (se_c (by decide +kernel))) (sa_nil)))))) (ss_next))) (ss_ret True.intro (se_if (st_test (se_fb (se_2 (op_cmp _) (se_fb (se_1 op_lenset (se_sb (se_varS (i := 2) rfl)))) (se_fb (se_c (by decide)))))) (se_tup rfl (sa_cons (c := .s) True.intro (se_fs (se_c (by decide +kernel))) (sa_cons (c := .s) True.intro (se_fs (se_1 op_neg (se_fb (se_c (by decide))))) (sa_cons (c := .s) True.intro (se_fs (se_c (by decide +kernel))) (sa_nil))))) (se_tup rfl (sa_cons (c := .s) True.intro (se_fs (se_c (by decide +kernel))) (sa_cons (c := .s) True.intro (se_varS (i := 2) rfl) (sa_nil)))))))))
theorem fs__law_told : FSim [.b] .f p__law_told w__law_told := fsim_mk (ls := [.s]) rfl rfl True.intro (by
  unfold b__law_told v__law_told
  exact ss_try (ss_ret True.intro (se_tup rfl (sa_cons (c := .s) True.intro (se_fs (se_c (by decide +kernel))) (sa_cons (c := .s) True.intro (se_call fs_lowest_die (sa_cons (c := .b) True.intro (se_varB (i := 0) True.intro) (sa_nil))) (sa_nil))))) (.cons rfl (fun a d => ss_ret True.intro (se_tup rfl (sa_cons (c := .s) True.intro (se_fs (se_c (by decide +kernel))) (sa_cons (c := .s) True.intro (se_fld (se_varB (i := 1) True.intro)) (sa_cons (c := .s) True.intro (se_fld (se_varB (i := 1) True.intro)) (sa_nil)))))) (.cons True.intro (fun a d => ss_ret True.intro (se_tup rfl (sa_cons (c := .s) True.intro (se_fs (se_c (by decide +kernel))) (sa_nil)))) (.nil))))
theorem fs__law_weights : FSim [.u puK, .b] .f p__law_weights w__law_weights := fsim_mk (ls := [.s, .o, .s, .s, .s]) rfl rfl True.intro (by
  unfold b__law_weights v__law_weights
  exact ss_seq (ss_asg (se_fs (se_2 op_add (se_fb (se_c (by decide))) (se_fb (se_call fs__law_spend (sa_cons (c := .u puK) True.intro (se_varU (i := 0) rfl) (sa_cons (c := .b) True.intro (se_fb (se_c (by decide))) (sa_nil))))))) (sg_name (i := 2) rfl)) (ss_seq (ss_asg (se_lc (by intro i h; simp only [List.mem_cons, List.not_mem_nil, or_false] at h; rcases h with rfl <;> rfl) (si_seqB (se_varB (i := 1) True.intro)) (sg_name (i := 5) rfl) (st_yes) (se_fs (se_2 op_mul (se_sb (se_varS (i := 5) rfl)) (se_sb (se_varS (i := 2) rfl))))) (sg_own (i := 3) rfl)) (ss_seq (ss_asg (se_fs (se_call fs__law_spend (sa_cons (c := .u puK) True.intro (se_varU (i := 0) rfl) (sa_cons (c := .b) True.intro (se_fb (se_c (by decide))) (sa_nil))))) (sg_name (i := 4) rfl)) (ss_seq (ss_if (st_test (se_fb (se_2 op_eq (se_sb (se_varS (i := 4) rfl)) (se_fb (se_c (by decide)))))) (ss_set (i := 3) rfl (se_fb (se_call fs__law_spend (sa_cons (c := .u puK) True.intro (se_varU (i := 0) rfl) (sa_cons (c := .b) True.intro (se_fb (se_args opa_len (sa_cons (c := .b) True.intro (se_varB (i := 3) True.intro) (sa_nil)))) (sa_nil))))) (se_fs (se_2 op_add (se_fb (se_c (by decide))) (se_fb (se_call fs__law_spend (sa_cons (c := .u puK) True.intro (se_varU (i := 0) rfl) (sa_cons (c := .b) True.intro (se_fb (se_c (by decide))) (sa_nil)))))))) (ss_next)) (ss_seq (ss_if (st_test (se_fb (se_2 op_eq (se_sb (se_varS (i := 4) rfl)) (se_fb (se_c (by decide)))))) (ss_set (i := 3) rfl (se_fb (se_call fs__law_spend (sa_cons (c := .u puK) True.intro (se_varU (i := 0) rfl) (sa_cons (c := .b) True.intro (se_fb (se_args opa_len (sa_cons (c := .b) True.intro (se_varB (i := 3) True.intro) (sa_nil)))) (sa_nil))))) (se_fs (se_2 op_mul (se_sb (se_varS (i := 2) rfl)) (se_fb (se_2 op_add (se_fb (se_c (by decide))) (se_fb (se_call fs__law_spend (sa_cons (c := .u puK) True.intro (se_varU (i := 0) rfl) (sa_cons (c := .b) True.intro (se_fb (se_c (by decide))) (sa_nil)))))))))) (ss_next)) (ss_seq (ss_if (st_test (se_fb (se_2 op_eq (se_sb (se_varS (i := 4) rfl)) (se_fb (se_c (by decide)))))) (ss_asg (se_lc (by intro i h; simp only [List.mem_cons, List.not_mem_nil, or_false] at h; rcases h with rfl <;> rfl) (si_seqB (se_varB (i := 1) True.intro)) (sg_name (i := 6) rfl) (st_yes) (se_fs (se_2 op_add (se_fb (se_c (by decide))) (se_fb (se_call fs__law_spend (sa_cons (c := .u puK) True.intro (se_varU (i := 0) rfl) (sa_cons (c := .b) True.intro (se_sb (se_call fs__law_one (sa_cons (c := .u puK) True.intro (se_varU (i := 0) rfl) (sa_cons (c := .b) True.intro (se_fb (se_lst rfl (sa_cons (c := .s) True.intro (se_fs (se_c (by decide))) (sa_cons (c := .s) True.intro (se_fs (se_c (by decide))) (sa_cons (c := .s) True.intro (se_fs (se_c (by decide))) (sa_nil)))))) (sa_nil))))) (sa_nil)))))))) (sg_own (i := 3) rfl)) (ss_next)) (ss_ret True.intro (se_args opa_tuple (sa_cons (c := .b) True.intro (se_varB (i := 3) True.intro) (sa_nil))))))))))
theorem fs__law_asked : FSim [.u puK, .b] .f p__law_asked w__law_asked := fsim_mk (ls := [.s, .s, .o, .s, .o, .s]) rfl rfl True.intro (by
  unfold b__law_asked v__law_asked
  exact (show _ from (have noK : ∀ i d y, mdF [.u puK, .b] [.s, .s, .o, .s, .o, .s] i ≠ .k d y := mdF_noK rfl; ss_seq (ss_asg (se_call fs__law_one (sa_cons (c := .u puK) True.intro (se_varU (i := 0) rfl) (sa_cons (c := .b) True.intro (se_fb (se_lst rfl (sa_cons (c := .s) True.intro (se_fs (se_c (by decide))) (sa_cons (c := .s) True.intro (se_fs (se_c (by decide))) (sa_cons (c := .s) True.intro (se_fs (se_2 op_sub (se_fb (se_args opa_len (sa_cons (c := .b) True.intro (se_varB (i := 1) True.intro) (sa_nil)))) (se_fb (se_c (by decide))))) (sa_cons (c := .s) True.intro (se_fs (se_args opa_len (sa_cons (c := .b) True.intro (se_varB (i := 1) True.intro) (sa_nil)))) (sa_cons (c := .s) True.intro (se_fs (se_call fs__law_spend (sa_cons (c := .u puK) True.intro (se_varU (i := 0) rfl) (sa_cons (c := .b) True.intro (se_fb (se_c (by decide))) (sa_nil))))) (sa_cons (c := .s) True.intro (se_fs (se_2 op_add (se_fb (se_2 op_pow (se_fb (se_c (by decide))) (se_fb (se_c (by decide))))) (se_fb (se_call fs__law_spend (sa_cons (c := .u puK) True.intro (se_varU (i := 0) rfl) (sa_cons (c := .b) True.intro (se_fb (se_c (by decide))) (sa_nil))))))) (sa_nil))))))))) (sa_nil)))) (sg_name (i := 2) rfl)) (ss_seq (ss_asg (se_fs (se_args opa_tuple (sa_cons (c := .b) True.intro (se_fb (se_lc (by intro i h; simp only [List.mem_cons, List.not_mem_nil, or_false] at h; rcases h with rfl <;> rfl) (si_rng1 (se_fb (se_args opa_len (sa_cons (c := .b) True.intro (se_varB (i := 1) True.intro) (sa_nil))))) (sg_name (i := 7) rfl) (st_yes) (se_2 op_ix (se_varB (i := 1) True.intro) (se_fb (se_2 op_mod (se_fb (se_args opa_int (sa_cons (c := .b) True.intro (se_fb (se_2 op_add (se_sb (se_varS (i := 7) rfl)) (se_sb (se_varS (i := 2) rfl)))) (sa_nil)))) (se_fb (se_args opa_len (sa_cons (c := .b) True.intro (se_varB (i := 1) True.intro) (sa_nil))))))))) (sa_nil)))) (sg_name (i := 3) rfl)) (ss_seq (ss_if (st_or (st_not (st_test (se_fb (se_call fs__law_same (sa_cons (c := .b) True.intro (se_fb (se_call fs_turned_die (sa_cons (c := .b) True.intro (se_varB (i := 1) True.intro) (sa_cons (c := .b) True.intro (se_sb (se_varS (i := 2) rfl)) (sa_nil))))) (sa_cons (c := .b) True.intro (se_sb (se_varS (i := 3) rfl)) (sa_nil))))))) (st_not (st_test (se_fb (se_call fs__law_same (sa_cons (c := .b) True.intro (se_fb (se_call fs_die_form (sa_cons (c := .b) True.intro (se_fb (se_call fs_turned_die (sa_cons (c := .b) True.intro (se_varB (i := 1) True.intro) (sa_cons (c := .b) True.intro (se_fb (se_args opa_len (sa_cons (c := .b) True.intro (se_varB (i := 1) True.intro) (sa_nil)))) (sa_nil))))) (sa_nil)))) (sa_cons (c := .b) True.intro (se_fb (se_call fs_die_form (sa_cons (c := .b) True.intro (se_varB (i := 1) True.intro) (sa_nil)))) (sa_nil)))))))) (ss_ret True.intro (se_c (by decide))) (ss_next)) (ss_seq (ss_asg (se_1 op_listR (se_fb (se_args opa_len (sa_cons (c := .b) True.intro (se_varB (i := 1) True.intro) (sa_nil))))) (sg_own (i := 4) rfl)) (ss_seq (ss_popT (j := 5) (i := 4) (t := 7) rfl rfl rfl (by decide) noK (si_seqP (i := 1) rfl) (se_fb (se_call fs__law_spend (sa_cons (c := .u puK) True.intro (se_varU (i := 0) rfl) (sa_cons (c := .b) True.intro (se_fb (se_args opa_len (sa_cons (c := .b) True.intro (se_varB (i := 4) True.intro) (sa_nil)))) (sa_nil)))))) (ss_seq (ss_asg (se_2 op_mul (se_fb (se_lst rfl (sa_cons (c := .s) True.intro (se_fs (se_c (by decide))) (sa_nil)))) (se_fb (se_args opa_len (sa_cons (c := .b) True.intro (se_varB (i := 1) True.intro) (sa_nil))))) (sg_own (i := 6) rfl)) (ss_seq (ss_for (si_rng1 (se_fb (se_args opa_len (sa_cons (c := .b) True.intro (se_varB (i := 1) True.intro) (sa_nil))))) (sg_name (i := 7) rfl) (ss_set (i := 6) rfl (se_sb (se_2 op_ix (se_sb (se_varS (i := 5) rfl)) (se_sb (se_varS (i := 7) rfl)))) (se_2 op_ix (se_varB (i := 1) True.intro) (se_sb (se_varS (i := 7) rfl))))) (ss_ret True.intro (se_call fs__law_same (sa_cons (c := .b) True.intro (se_fb (se_tup rfl (sa_cons (c := .s) True.intro (se_fs (se_call fs_mixed_die (sa_cons (c := .b) True.intro (se_varB (i := 1) True.intro) (sa_cons (c := .b) True.intro (se_sb (se_varS (i := 5) rfl)) (sa_nil))))) (sa_cons (c := .s) True.intro (se_fs (se_call fs_die_total (sa_cons (c := .b) True.intro (se_sb (se_varS (i := 3) rfl)) (sa_nil)))) (sa_nil))))) (sa_cons (c := .b) True.intro (se_fb (se_tup rfl (sa_cons (c := .s) True.intro (se_fs (se_args opa_tuple (sa_cons (c := .b) True.intro (se_varB (i := 6) True.intro) (sa_nil)))) (sa_cons (c := .s) True.intro (se_fs (se_args opa_sum (sa_cons (c := .b) True.intro (se_varB (i := 1) True.intro) (sa_nil)))) (sa_nil))))) (sa_nil))))))))))))))
theorem law_of (ns : List Int) (hn : ns.length ≤ 63) (k : v_law { nx := fun _ => False, rt := fun y => y = .bl true, bk := fun _ => False, ct := fun _ => False, ex := fun _ _ => False } (none :: some .non :: List.replicate 6 none)) : p_law [.rol (ns.map D.int)] (fun _ => none) (fun d _ => d = .bl true) (fun _ _ => False) := by
  refine law_sim (M := mdF [.s] [.u puK, .s, .s, .s, .s, .s, .s]) (rc := .f) (K := puK) (m := 6) (pp := p__law_purse) (vrest := v_law) rfl (mdF_noK rfl) True.intro (fun Q q => purse_po (ns := ns) (fun Q E q => purse_ok (by decide) (by decide) (by decide) (by decide) (by decide) hn q) Q q) ?_ k
  unfold v_law
  exact ss_seq (ss_if (st_not (st_test (se_fb (se_call fs__law_same (sa_cons (c := .b) True.intro (se_fb (se_tup rfl (sa_cons (c := .s) True.intro (se_call fs_lowest_die (sa_cons (c := .b) True.intro (se_fb (se_tup rfl (sa_cons (c := .s) True.intro (se_fs (se_c (by decide))) (sa_cons (c := .s) True.intro (se_fs (se_c (by decide))) (sa_nil))))) (sa_nil))) (sa_cons (c := .s) True.intro (se_fs (se_call fs_turned_die (sa_cons (c := .b) True.intro (se_fb (se_tup rfl (sa_cons (c := .s) True.intro (se_fs (se_c (by decide))) (sa_cons (c := .s) True.intro (se_fs (se_c (by decide))) (sa_cons (c := .s) True.intro (se_fs (se_c (by decide))) (sa_nil)))))) (sa_cons (c := .b) True.intro (se_fb (se_c (by decide))) (sa_nil))))) (sa_cons (c := .s) True.intro (se_fs (se_call fs_mixed_die (sa_cons (c := .b) True.intro (se_fb (se_tup rfl (sa_cons (c := .s) True.intro (se_fs (se_c (by decide))) (sa_cons (c := .s) True.intro (se_fs (se_c (by decide))) (sa_cons (c := .s) True.intro (se_fs (se_c (by decide))) (sa_nil)))))) (sa_cons (c := .b) True.intro (se_fb (se_tup rfl (sa_cons (c := .s) True.intro (se_fs (se_c (by decide))) (sa_cons (c := .s) True.intro (se_fs (se_c (by decide))) (sa_cons (c := .s) True.intro (se_fs (se_c (by decide))) (sa_nil)))))) (sa_nil))))) (sa_nil)))))) (sa_cons (c := .b) True.intro (se_fb (se_tup rfl (sa_cons (c := .s) True.intro (se_fs (se_tup rfl (sa_cons (c := .s) True.intro (se_fs (se_c (by decide))) (sa_cons (c := .s) True.intro (se_fs (se_c (by decide))) (sa_nil))))) (sa_cons (c := .s) True.intro (se_fs (se_tup rfl (sa_cons (c := .s) True.intro (se_fs (se_c (by decide))) (sa_cons (c := .s) True.intro (se_fs (se_c (by decide))) (sa_cons (c := .s) True.intro (se_fs (se_c (by decide))) (sa_nil)))))) (sa_cons (c := .s) True.intro (se_fs (se_tup rfl (sa_cons (c := .s) True.intro (se_fs (se_c (by decide))) (sa_cons (c := .s) True.intro (se_fs (se_c (by decide))) (sa_cons (c := .s) True.intro (se_fs (se_c (by decide))) (sa_nil)))))) (sa_nil)))))) (sa_nil))))))) (ss_ret True.intro (se_c (by decide))) (ss_next)) (ss_seq (ss_for (si_rng1 (se_fb (se_c (by decide)))) (sg_name (i := 2) rfl) (ss_seq (ss_asg (se_fs (se_call fs__law_die (sa_cons (c := .u puK) True.intro (se_varU (i := 1) rfl) (sa_nil)))) (sg_name (i := 3) rfl)) (ss_seq (ss_if (st_not (st_test (se_fb (se_call fs__law_asked (sa_cons (c := .u puK) True.intro (se_varU (i := 1) rfl) (sa_cons (c := .b) True.intro (se_sb (se_varS (i := 3) rfl)) (sa_nil))))))) (ss_ret True.intro (se_c (by decide))) (ss_next)) (ss_seq (ss_for (si_rng1 (se_fb (se_c (by decide)))) (sg_name (i := 4) rfl) (ss_seq (ss_asg (se_fs (se_call fs__law_weights (sa_cons (c := .u puK) True.intro (se_varU (i := 1) rfl) (sa_cons (c := .b) True.intro (se_sb (se_varS (i := 3) rfl)) (sa_nil))))) (sg_name (i := 6) rfl)) (ss_if (st_not (st_test (se_fb (se_call fs__law_same (sa_cons (c := .b) True.intro (se_fb (se_call fs__law_told (sa_cons (c := .b) True.intro (se_sb (se_varS (i := 6) rfl)) (sa_nil)))) (sa_cons (c := .b) True.intro (se_fb (se_call fs__law_due (sa_cons (c := .b) True.intro (se_sb (se_varS (i := 6) rfl)) (sa_nil)))) (sa_nil))))))) (ss_ret True.intro (se_c (by decide))) (ss_next)))) (ss_seq (ss_asg (se_fs (se_2 op_add (se_fb (se_c (by decide))) (se_fb (se_call fs__law_spend (sa_cons (c := .u puK) True.intro (se_varU (i := 1) rfl) (sa_cons (c := .b) True.intro (se_fb (se_c (by decide))) (sa_nil))))))) (sg_name (i := 5) rfl)) (ss_if (st_or (st_not (st_test (se_fb (se_call fs__law_same (sa_cons (c := .b) True.intro (se_fb (se_call fs__law_told (sa_cons (c := .b) True.intro (se_fb (se_args opa_tuple (sa_cons (c := .b) True.intro (se_fb (se_lc (by intro i h; simp only [List.mem_cons, List.not_mem_nil, or_false] at h; rcases h with rfl <;> rfl) (si_seqB (se_sb (se_varS (i := 3) rfl))) (sg_name (i := 7) rfl) (st_yes) (se_fs (se_2 op_mul (se_sb (se_varS (i := 7) rfl)) (se_sb (se_varS (i := 5) rfl)))))) (sa_nil)))) (sa_nil)))) (sa_cons (c := .b) True.intro (se_fb (se_tup rfl (sa_cons (c := .s) True.intro (se_fs (se_c (by decide +kernel))) (sa_cons (c := .s) True.intro (se_varS (i := 3) rfl) (sa_nil))))) (sa_nil))))))) (st_test (se_fb (se_2 op_ne (se_sb (se_2 op_ix (se_fb (se_call fs__law_told (sa_cons (c := .b) True.intro (se_fb (se_tup rfl (sa_cons (c := .s) True.intro (se_fs (se_c (by decide))) (sa_cons (c := .s) True.intro (se_fs (se_2 op_add (se_fb (se_2 op_mul (se_sb (se_varS (i := 5) rfl)) (se_fb (se_c (by decide))))) (se_fb (se_2 op_mul (se_fb (se_c (by decide))) (se_fb (se_c (by decide))))))) (sa_nil))))) (sa_nil)))) (se_fb (se_c (by decide))))) (se_fb (se_c (by decide +kernel))))))) (ss_ret True.intro (se_c (by decide))) (ss_next))))))) (ss_ret True.intro (se_c (by decide))))
end L_throwntrue_k01_die_edits
set_option linter.all false
set_option maxRecDepth 100000
namespace L_throwntrue_k01_die_edits
open PySem PD
local macro_rules | `(tactic| decreasing_trivial_pre_omega) => `(tactic| (repeat (first | with_reducible apply z_seq | with_reducible apply z_asg | with_reducible apply z_ret | with_reducible apply z_retN | with_reducible apply z_drop | with_reducible apply z_next | with_reducible apply z_break | with_reducible apply z_cont | with_reducible apply z_if | with_reducible apply z_par | with_reducible apply z_walk | with_reducible apply z_c | with_reducible apply z_d1 | with_reducible apply z_d2 | with_reducible apply z_nil | with_reducible apply z_cons | with_reducible apply z_args | with_reducible apply z_call | with_reducible apply z_test | with_reducible apply z_asB | with_reducible apply z_andT | with_reducible apply z_orT | with_reducible apply z_notT | with_reducible apply z_andV | with_reducible apply z_orV | with_reducible apply z_notV | with_reducible apply z_ifE | with_reducible apply z_chain | with_reducible apply z_tup | with_reducible apply z_lst | with_reducible apply z_yes | with_reducible apply z_isi | with_reducible apply z_isiN | with_reducible apply z_isiB | with_reducible apply z_isiI | with_reducible apply z_isiS | with_reducible apply z_isiT | with_reducible apply z_isiL | with_reducible apply z_isiLoc | with_reducible apply z_isiW | with_reducible apply z_methLT | with_reducible apply z_methLTt | with_reducible apply z_methLTl | with_reducible apply z_gTup | with_reducible apply z_gWtup | with_reducible apply z_gnn | with_reducible apply z_gDrop | with_reducible apply z_add | with_reducible apply z_sub | with_reducible apply z_neg | with_reducible apply z_lt | with_reducible apply z_le | with_reducible apply z_gt | with_reducible apply z_ge | with_reducible apply z_eq | with_reducible apply z_ne | with_reducible apply z_eqB | with_reducible apply z_neB | with_reducible apply z_is | with_reducible apply z_isNot | with_reducible apply z_lenT | with_reducible apply z_lenL | with_reducible apply z_int | with_reducible apply z_tupT | with_reducible apply z_tupL | with_reducible apply z_listT | with_reducible apply z_listL | with_reducible apply z_wSeq | with_reducible apply z_wT | with_reducible apply z_wL | with_reducible apply z_wRng1 | with_reducible apply z_wRng2 | with_reducible apply z_wEnum | with_reducible apply z_dFld | with_reducible apply z_cut00 | with_reducible apply z_cut01 | with_reducible apply z_cut10 | with_reducible apply z_cut11 | with_reducible apply z_asI | with_reducible apply z_cutT | with_reducible apply z_cutL | with_reducible apply z_nT | with_reducible apply z_nF | with_reducible apply z_max2 | with_reducible apply z_min2 | with_reducible apply z_bits | with_reducible apply z_raise | with_reducible apply z_try | with_reducible apply z_revL | with_reducible refine z_var (by with_unfolding_all rfl) ?_ | with_reducible refine z_gName (by dsimp only [setE] <;> with_unfolding_all rfl) ?_ | with_reducible refine z_gnc (by dsimp only [setE] <;> with_unfolding_all rfl) ?_ | with_reducible refine z_lc (by dsimp only [wipeE, setE] <;> with_unfolding_all rfl) ?_ | with_reducible refine x_len0 (by with_unfolding_all rfl) ?_ | with_reducible refine z_ixT (by with_unfolding_all rfl) ?_ | with_reducible refine z_ixL (by with_unfolding_all rfl) ?_ | with_reducible refine z_walkO (by with_unfolding_all rfl) ?_ | with_reducible refine z_walkOE (by with_unfolding_all rfl) ?_ | with_reducible refine z_app (by with_unfolding_all rfl) ?_ | with_reducible refine z_set (by with_unfolding_all rfl) ?_ | with_reducible refine z_pop1 (by with_unfolding_all rfl) ?_ | with_reducible refine z_mv (by with_unfolding_all rfl) ?_ | with_reducible refine z_popT (by with_unfolding_all rfl) ?_ | with_reducible refine z_del (by with_unfolding_all rfl) ?_ | with_reducible refine z_listR (by omega) ?_ | with_reducible refine z_fld (by with_unfolding_all rfl) ?_ | with_reducible refine z_mod (by omega) ?_ | with_reducible refine z_div64 (by omega) ?_ | with_reducible refine z_mul64 (by omega) ?_ | with_reducible refine z_powL (by decide) (by decide) (by decide) ?_ | with_reducible refine z_shlL (by decide) (by decide) (by decide) ?_ | with_reducible refine z_rng (by omega) ?_ | with_reducible refine z_rng2 (by omega) ?_ | with_reducible refine x_iteT ?_ | with_reducible refine x_iteF ?_ | with_reducible refine z_ifT (by with_unfolding_all rfl) ?_ | with_reducible refine z_ifF (by with_unfolding_all rfl) ?_ | with_reducible refine z_iteP (by omega) ?_ | with_reducible refine z_iteM (by omega) ?_ | with_reducible refine z_iteNP (by omega) ?_ | with_reducible refine z_iteNM (by omega) ?_ | with_reducible refine z_eqS (by decide +kernel) (by decide +kernel) ?_ | with_reducible refine z_neS (by decide +kernel) (by decide +kernel) ?_ | with_reducible refine z_ifT (by decide +kernel) ?_ | with_reducible refine z_ifF (by decide +kernel) ?_)))
local macro_rules | `(tactic| get_elem_tactic_trivial) => `(tactic| (repeat (first | with_reducible apply z_asg | with_reducible apply z_ret | with_reducible apply z_retN | with_reducible apply z_drop | with_reducible apply z_next | with_reducible apply z_break | with_reducible apply z_cont | with_reducible apply z_if | with_reducible apply z_par | with_reducible apply z_walk | with_reducible apply z_c | with_reducible apply z_d1 | with_reducible apply z_d2 | with_reducible apply z_nil | with_reducible apply z_cons | with_reducible apply z_args | with_reducible apply z_call | with_reducible apply z_test | with_reducible apply z_asB | with_reducible apply z_andT | with_reducible apply z_orT | with_reducible apply z_notT | with_reducible apply z_andV | with_reducible apply z_orV | with_reducible apply z_notV | with_reducible apply z_ifE | with_reducible apply z_chain | with_reducible apply z_tup | with_reducible apply z_lst | with_reducible apply z_yes | with_reducible apply z_isi | with_reducible apply z_isiN | with_reducible apply z_isiB | with_reducible apply z_isiI | with_reducible apply z_isiS | with_reducible apply z_isiT | with_reducible apply z_isiL | with_reducible apply z_isiLoc | with_reducible apply z_isiW | with_reducible apply z_methLT | with_reducible apply z_methLTt | with_reducible apply z_methLTl | with_reducible apply z_gTup | with_reducible apply z_gWtup | with_reducible apply z_gnn | with_reducible apply z_gDrop | with_reducible apply z_add | with_reducible apply z_sub | with_reducible apply z_neg | with_reducible apply z_lt | with_reducible apply z_le | with_reducible apply z_gt | with_reducible apply z_ge | with_reducible apply z_eq | with_reducible apply z_ne | with_reducible apply z_eqB | with_reducible apply z_neB | with_reducible apply z_is | with_reducible apply z_isNot | with_reducible apply z_lenT | with_reducible apply z_lenL | with_reducible apply z_int | with_reducible apply z_tupT | with_reducible apply z_tupL | with_reducible apply z_listT | with_reducible apply z_listL | with_reducible apply z_wSeq | with_reducible apply z_wT | with_reducible apply z_wL | with_reducible apply z_wRng1 | with_reducible apply z_wRng2 | with_reducible apply z_wEnum | with_reducible apply z_dFld | with_reducible apply z_cut00 | with_reducible apply z_cut01 | with_reducible apply z_cut10 | with_reducible apply z_cut11 | with_reducible apply z_asI | with_reducible apply z_cutT | with_reducible apply z_cutL | with_reducible apply z_nT | with_reducible apply z_nF | with_reducible apply z_max2 | with_reducible apply z_min2 | with_reducible apply z_bits | with_reducible apply z_raise | with_reducible apply z_try | with_reducible apply z_revL | with_reducible refine z_var (by with_unfolding_all rfl) ?_ | with_reducible refine z_gName (by dsimp only [setE] <;> with_unfolding_all rfl) ?_ | with_reducible refine z_gnc (by dsimp only [setE] <;> with_unfolding_all rfl) ?_ | with_reducible refine z_lc (by dsimp only [wipeE, setE] <;> with_unfolding_all rfl) ?_ | with_reducible refine x_len0 (by with_unfolding_all rfl) ?_ | with_reducible refine z_ixT (by with_unfolding_all rfl) ?_ | with_reducible refine z_ixL (by with_unfolding_all rfl) ?_ | with_reducible refine z_walkO (by with_unfolding_all rfl) ?_ | with_reducible refine z_walkOE (by with_unfolding_all rfl) ?_ | with_reducible refine z_app (by with_unfolding_all rfl) ?_ | with_reducible refine z_set (by with_unfolding_all rfl) ?_ | with_reducible refine z_pop1 (by with_unfolding_all rfl) ?_ | with_reducible refine z_mv (by with_unfolding_all rfl) ?_ | with_reducible refine z_popT (by with_unfolding_all rfl) ?_ | with_reducible refine z_del (by with_unfolding_all rfl) ?_ | with_reducible refine z_listR (by omega) ?_ | with_reducible refine z_fld (by with_unfolding_all rfl) ?_ | with_reducible refine z_mod (by omega) ?_ | with_reducible refine z_div64 (by omega) ?_ | with_reducible refine z_mul64 (by omega) ?_ | with_reducible refine z_powL (by decide) (by decide) (by decide) ?_ | with_reducible refine z_shlL (by decide) (by decide) (by decide) ?_ | with_reducible refine z_rng (by omega) ?_ | with_reducible refine z_rng2 (by omega) ?_ | with_reducible refine x_iteT ?_ | with_reducible refine x_iteF ?_ | with_reducible refine z_ifT (by with_unfolding_all rfl) ?_ | with_reducible refine z_ifF (by with_unfolding_all rfl) ?_ | with_reducible refine z_iteP (by omega) ?_ | with_reducible refine z_iteM (by omega) ?_ | with_reducible refine z_iteNP (by omega) ?_ | with_reducible refine z_iteNM (by omega) ?_ | with_reducible refine z_eqS (by decide +kernel) (by decide +kernel) ?_ | with_reducible refine z_neS (by decide +kernel) (by decide +kernel) ?_ | with_reducible refine z_ifT (by decide +kernel) ?_ | with_reducible refine z_ifF (by decide +kernel) ?_)))

theorem line1000 {n : Nat} (h : n ≤ 1000) : n ≤ LINE := by unfold LINE; omega
/-- how many numbers there are -/
def dcnt : List Int → Nat
  | [] => 0
  | n :: r => if n ∈ r then dcnt r else dcnt r + 1
theorem dcnt_eq : ∀ (ns l : List Int), l.Nodup → (∀ k, k ∈ l ↔ k ∈ ns) → l.length = dcnt ns
  | [], l, _, h => by
    cases l with
    | nil => rfl
    | cons a r => have := (h a).mp (List.mem_cons_self ..); cases this
  | n :: r, l, hd, h => by
    unfold dcnt
    by_cases hn : n ∈ r
    · rw [if_pos hn]
      refine dcnt_eq r l hd fun k => (h k).trans ⟨fun z => ?_, fun z => List.mem_cons_of_mem _ z⟩
      rcases List.mem_cons.mp z with z | z
      · rw [z]; exact hn
      · exact z
    · rw [if_neg hn]
      have hl : n ∈ l := (h n).mpr (List.mem_cons_self ..)
      have h2 := dcnt_eq r (l.erase n) (hd.erase n) fun k => by
        rw [hd.mem_erase_iff]
        constructor
        · rintro ⟨h3, h4⟩
          rcases List.mem_cons.mp ((h k).mp h4) with z | z
          · exact absurd z h3
          · exact z
        · intro z
          exact ⟨fun e => hn (by rw [← e]; exact z), (h k).mpr (List.mem_cons_of_mem _ z)⟩
      rw [List.length_erase_of_mem hl] at h2
      have : 0 < l.length := List.length_pos_of_mem hl
      omega
def dd : List Int → List Int
  | [] => []
  | n :: r => if n ∈ r then dd r else n :: dd r
theorem mem_dd : ∀ {ns : List Int} {k : Int}, k ∈ dd ns ↔ k ∈ ns
  | [], k => Iff.rfl
  | n :: r, k => by
    unfold dd
    by_cases hn : n ∈ r
    · rw [if_pos hn, mem_dd, List.mem_cons]
      exact ⟨.inr, fun z => z.elim (fun e => by rw [e]; exact hn) id⟩
    · rw [if_neg hn, List.mem_cons, List.mem_cons, mem_dd]
theorem nodup_dd : ∀ (ns : List Int), (dd ns).Nodup
  | [] => List.nodup_nil
  | n :: r => by
    unfold dd
    by_cases hn : n ∈ r
    · rw [if_pos hn]; exact nodup_dd r
    · rw [if_neg hn, List.nodup_cons]; exact ⟨fun z => hn (mem_dd.mp z), nodup_dd r⟩
theorem dcnt_two {x y : Int} : ∀ {ns : List Int}, (∀ n ∈ ns, n = x ∨ n = y) → dcnt ns ≤ 2 := fun {ns} h => by
  have hx : ∀ (l : List Int), l.Nodup → (∀ k ∈ l, k = x ∨ k = y) → l.length ≤ 2 := fun l hd hl => by
    match l, hd, hl with
    | [], _, _ => simp
    | [_], _, _ => simp
    | [_, _], _, _ => simp
    | a :: b :: c :: r, hd, hl =>
      exfalso
      have h1 := hl a (by simp)
      have h2 := hl b (by simp)
      have h3 := hl c (by simp)
      simp only [List.nodup_cons, List.mem_cons, not_or] at hd
      omega
  rw [← dcnt_eq ns (dd ns) (nodup_dd ns) fun k => mem_dd]
  exact hx _ (nodup_dd ns) fun k hk => h k (mem_dd.mp hk)
def bigP : D → Bool
  | .int i => decide (5 < i)
  | _ => false
/-- what is due of lowered weights -/
def dueW (ns : List Int) : D := match (ns.map D.int).findIdx? bigP with
  | some k => .tup [.str "bad", .int (k : Nat), .str "weight"]
  | none => if 2 < dcnt ns then .tup [.str "bad", .int (-1), .str "sizes"] else .tup [.str "told", .tup (ns.map D.int)]
/-- weights: two to five above 0 -/
def WOk (ns : List Int) : Prop := 2 ≤ ns.length ∧ ns.length ≤ 5 ∧ ∀ n ∈ ns, 1 ≤ n ∧ n < 2 ^ 64
theorem WOk.gcd {ns : List Int} (h : WOk ns) : 0 < ((gcdL ns 0 : Nat) : Int) ∧ ((gcdL ns 0 : Nat) : Int) < 2 ^ 64 := by
  obtain ⟨h1, _, h3⟩ := h
  cases ns with
  | nil => simp at h1
  | cons n r =>
    have := gcdL_pos (List.mem_cons_self (a := n) (l := r)) (h3 n (List.mem_cons_self ..)).1
    have := h3 n (List.mem_cons_self ..)
    omega
theorem WOk.low {ns : List Int} (h : WOk ns) : WOk (lowI ns) := ⟨by rw [len_lowI]; exact h.1, by rw [len_lowI]; exact h.2.1, fun n hn => by
  obtain ⟨k, hk, rfl⟩ := List.mem_map.mp hn
  have h3 := h.2.2 k hk
  have := div_mem hk h3.1
  omega⟩
theorem WOk.one {ns : List Int} (h : WOk ns) : gcdL (lowI ns) 0 = 1 := by
  obtain ⟨h1, _, h3⟩ := h
  cases ns with
  | nil => simp at h1
  | cons n r => exact gcd_low (List.mem_cons_self ..) fun n hn => (h3 n hn).1
theorem t_check {ns : List Int} {Q : VQ} {E : VX} (h : WOk ns) (h1 : gcdL ns 0 = 1) (q : (ns.map D.int).findIdx? bigP = none → ¬ 2 < dcnt ns → Q (.int ns.sum))
    (x1 : ∀ k, (ns.map D.int).findIdx? bigP = some k → E ⟨"BadDie", [("word", .str "weight"), ("at", .int (k : Nat))]⟩) (x2 : (ns.map D.int).findIdx? bigP = none → 2 < dcnt ns → E ⟨"BadDie", [("word", .str "sizes"), ("at", .int (-1))]⟩) : w_check_die [.tup (ns.map D.int)] Q E := by
  refine vb_mk rfl ?_
  unfold v_check_die
  show tSeq _ _ _ [some (.tup (ns.map D.int)), none, none]
  obtain ⟨l1, l2, hn⟩ := h
  have hl : (ns.map D.int).length = ns.length := List.length_map ..
  decreasing_trivial_pre_omega
  refine z_findE bigP (fun σ => ∃ a b, σ = [some (.tup (ns.map D.int)), a, b]) ⟨_, _, rfl⟩ (fun k y σ N hy h hp hN => ?_) fun hb σ h => ?_
  · obtain ⟨a, b, rfl⟩ := h
    obtain ⟨n, hn2, rfl⟩ := List.mem_map.mp (List.mem_of_getElem? hy)
    have h1 := hn n hn2
    decreasing_trivial_pre_omega
    refine z_between trivial ?_
    by_cases h5 : 5 < n
    · rw [show betD 1 5 (.int n) = false by simp [betD]; omega]
      decreasing_trivial_pre_omega
      exact ⟨rfl, x1 k (hp (decide_eq_true h5))⟩
    · rw [show betD 1 5 (.int n) = true by simp [betD]; omega]
      decreasing_trivial_pre_omega
      exact hN (decide_eq_false h5) _ (by (repeat (first | rfl | apply Exists.intro)))
  · obtain ⟨a, b, rfl⟩ := h
    decreasing_trivial_pre_omega
    refine z_lenSet (by omega) fun l hd hm => ?_
    rw [dcnt_eq ns l hd hm]
    by_cases h2 : 2 < dcnt ns
    · decreasing_trivial_pre_omega
      exact ⟨rfl, x2 hb h2⟩
    · decreasing_trivial_pre_omega
      refine z_cf (.inl rfl) (fun n hn' => by have := (hn n hn').1; omega) ?_
      rw [h1]
      decreasing_trivial_pre_omega
      refine z_sumT ?_
      exact q hb h2
theorem isa1 : isaT "BadDie" "BadDie" = some true := by decide
theorem t_lowest {ns : List Int} {Q : VQ} {E : VX} (h : WOk ns) (q : ((lowI ns).map D.int).findIdx? bigP = none → ¬ 2 < dcnt (lowI ns) → Q (.tup ((lowI ns).map D.int)))
    (x1 : ∀ k, ((lowI ns).map D.int).findIdx? bigP = some k → E ⟨"BadDie", [("word", .str "weight"), ("at", .int (k : Nat))]⟩) (x2 : ((lowI ns).map D.int).findIdx? bigP = none → 2 < dcnt (lowI ns) → E ⟨"BadDie", [("word", .str "sizes"), ("at", .int (-1))]⟩) : w_lowest_die [.tup (ns.map D.int)] Q E := by
  refine vb_mk rfl ?_
  unfold v_lowest_die
  show tSeq _ _ _ [some (.tup (ns.map D.int)), none, none, none]
  have hl2 := h.2.1
  decreasing_trivial_pre_omega
  refine z_cf (.inl rfl) (fun n hn => by have := (h.2.2 n hn).1; omega) ?_
  refine z_gName (by dsimp only [setE] <;> with_unfolding_all rfl) ?_
  refine z_seq (z_asg (z_args (z_cons ?_)))
  refine z_over (g := ((gcdL ns 0 : Nat) : Int)) (ns := ns) (fun R h => ?_) (fun _ => by with_unfolding_all rfl) (fun _ => by with_unfolding_all rfl) (line1000 (by omega)) h.gcd ?_
  · decreasing_trivial_pre_omega
    exact h
  · have el : ns.map (fun n => n / ((gcdL ns 0 : Nat) : Int)) = lowI ns := rfl
    rw [el]
    decreasing_trivial_pre_omega
    refine t_check h.low h.one (fun h1 h2 => ?_) x1 x2
    decreasing_trivial_pre_omega
    exact q h1 h2
theorem t_told {ns : List Int} {Q : VQ} {E : VX} (h : WOk ns) (q : Q (dueW (lowI ns))) : w__law_told [.tup (ns.map D.int)] Q E := by
  refine vb_mk rfl ?_
  unfold v__law_told
  show tTry _ _ _ _ [some (.tup (ns.map D.int)), none]
  unfold dueW at q
  decreasing_trivial_pre_omega
  refine t_lowest h (fun h1 h2 => ?_) (fun k h1 => ?_) (fun h1 h2 => ?_)
  · rw [h1] at q
    simp only [h2, if_false] at q
    decreasing_trivial_pre_omega
    exact q
  · rw [h1] at q
    refine z_catch isa1 fun a' d' => ?_
    decreasing_trivial_pre_omega
    exact q
  · rw [h1] at q
    simp only [h2, if_true] at q
    refine z_catch isa1 fun a' d' => ?_
    decreasing_trivial_pre_omega
    exact q
theorem t_due {ns : List Int} {Q : VQ} {E : VX} (h : WOk ns) (q : Q (dueW (lowI ns))) : w__law_due [.tup (ns.map D.int)] Q E := by
  refine vb_mk rfl ?_
  unfold v__law_due
  show tSeq _ _ _ [some (.tup (ns.map D.int)), none, none, none, none]
  have hl2 := h.2.1
  unfold dueW at q
  decreasing_trivial_pre_omega
  refine z_commonT (fun n hn => by have := (h.2.2 n hn).1; omega) ?_
  refine z_gName (by dsimp only [setE] <;> with_unfolding_all rfl) ?_
  refine z_seq (z_asg (z_args (z_cons ?_)))
  refine z_over (g := ((gcdL ns 0 : Nat) : Int)) (ns := ns) (fun R h => ?_) (fun _ => by with_unfolding_all rfl) (fun _ => by with_unfolding_all rfl) (line1000 (by omega)) h.gcd ?_
  · decreasing_trivial_pre_omega
    exact h
  · have el : ns.map (fun n => n / ((gcdL ns 0 : Nat) : Int)) = lowI ns := rfl
    rw [el]
    have low := h.low
    have ll : ((lowI ns).map D.int).length = ns.length := by rw [List.length_map, len_lowI]
    decreasing_trivial_pre_omega
    rw [toNat_len]
    refine z_findR bigP (fun σ => ∃ a b, σ = [some (.tup (ns.map D.int)), some (.int (gcdL ns 0 : Nat)), some (.tup ((lowI ns).map D.int)), a, b]) ⟨_, _, rfl⟩ (fun k y σ N hy ea h hp hN => ?_) fun hb σ h => ?_
    · obtain ⟨a, b, rfl⟩ := h
      obtain ⟨n, hn2, rfl⟩ := List.mem_map.mp (List.mem_of_getElem? hy)
      decreasing_trivial_pre_omega
      refine z_ixT ea ?_
      by_cases h5 : 5 < n
      · rw [hp (decide_eq_true h5)] at q
        decreasing_trivial_pre_omega
        exact q
      · decreasing_trivial_pre_omega
        exact hN (decide_eq_false h5) _ (by (repeat (first | rfl | apply Exists.intro)))
    · obtain ⟨a, b, rfl⟩ := h
      rw [hb] at q
      decreasing_trivial_pre_omega
      refine z_lenSet (by rw [len_lowI]; omega) fun l hd hm => ?_
      rw [dcnt_eq (lowI ns) l hd hm]
      by_cases h2 : 2 < dcnt (lowI ns)
      · simp only [h2, if_true] at q
        decreasing_trivial_pre_omega
        exact q
      · simp only [h2, if_false] at q
        decreasing_trivial_pre_omega
        exact q
theorem sm_dueW {ns : List Int} (h : ns.length ≤ 5) : Sm 2 20 (dueW ns) := by
  unfold dueW
  split
  · refine sm_tup (n := 1) (fun x hx => ?_) (by simp)
    simp only [List.mem_cons, List.not_mem_nil, or_false] at hx
    rcases hx with rfl | rfl | rfl
    · exact sm_str (by decide) (by decide +kernel)
    · exact sm_int (by decide) _
    · exact sm_str (by decide) (by decide +kernel)
  · split
    · refine sm_tup (n := 1) (fun x hx => ?_) (by simp)
      simp only [List.mem_cons, List.not_mem_nil, or_false] at hx
      rcases hx with rfl | rfl | rfl
      · exact sm_str (by decide) (by decide +kernel)
      · exact sm_int (by decide) _
      · exact sm_str (by decide) (by decide +kernel)
    · refine sm_tup (d := 1) (n := 6) (fun x hx => ?_) (by simp)
      simp only [List.mem_cons, List.not_mem_nil, or_false] at hx
      rcases hx with rfl | rfl
      · exact sm_str (by decide) (by decide +kernel)
      · exact sm_ints (by omega)
end L_throwntrue_k01_die_edits
set_option linter.all false
set_option maxRecDepth 100000
namespace L_throwntrue_k01_die_edits
open PySem PD
local macro_rules | `(tactic| decreasing_trivial_pre_omega) => `(tactic| (repeat (first | with_reducible apply z_seq | with_reducible apply z_asg | with_reducible apply z_ret | with_reducible apply z_retN | with_reducible apply z_drop | with_reducible apply z_next | with_reducible apply z_break | with_reducible apply z_cont | with_reducible apply z_if | with_reducible apply z_par | with_reducible apply z_walk | with_reducible apply z_c | with_reducible apply z_d1 | with_reducible apply z_d2 | with_reducible apply z_nil | with_reducible apply z_cons | with_reducible apply z_args | with_reducible apply z_call | with_reducible apply z_test | with_reducible apply z_asB | with_reducible apply z_andT | with_reducible apply z_orT | with_reducible apply z_notT | with_reducible apply z_andV | with_reducible apply z_orV | with_reducible apply z_notV | with_reducible apply z_ifE | with_reducible apply z_chain | with_reducible apply z_tup | with_reducible apply z_lst | with_reducible apply z_yes | with_reducible apply z_isi | with_reducible apply z_isiN | with_reducible apply z_isiB | with_reducible apply z_isiI | with_reducible apply z_isiS | with_reducible apply z_isiT | with_reducible apply z_isiL | with_reducible apply z_isiLoc | with_reducible apply z_isiW | with_reducible apply z_methLT | with_reducible apply z_methLTt | with_reducible apply z_methLTl | with_reducible apply z_gTup | with_reducible apply z_gWtup | with_reducible apply z_gnn | with_reducible apply z_gDrop | with_reducible apply z_add | with_reducible apply z_sub | with_reducible apply z_neg | with_reducible apply z_lt | with_reducible apply z_le | with_reducible apply z_gt | with_reducible apply z_ge | with_reducible apply z_eq | with_reducible apply z_ne | with_reducible apply z_eqB | with_reducible apply z_neB | with_reducible apply z_is | with_reducible apply z_isNot | with_reducible apply z_lenT | with_reducible apply z_lenL | with_reducible apply z_int | with_reducible apply z_tupT | with_reducible apply z_tupL | with_reducible apply z_listT | with_reducible apply z_listL | with_reducible apply z_wSeq | with_reducible apply z_wT | with_reducible apply z_wL | with_reducible apply z_wRng1 | with_reducible apply z_wRng2 | with_reducible apply z_wEnum | with_reducible apply z_dFld | with_reducible apply z_cut00 | with_reducible apply z_cut01 | with_reducible apply z_cut10 | with_reducible apply z_cut11 | with_reducible apply z_asI | with_reducible apply z_cutT | with_reducible apply z_cutL | with_reducible apply z_nT | with_reducible apply z_nF | with_reducible apply z_max2 | with_reducible apply z_min2 | with_reducible apply z_bits | with_reducible apply z_raise | with_reducible apply z_try | with_reducible apply z_revL | with_reducible refine z_var (by with_unfolding_all rfl) ?_ | with_reducible refine z_gName (by dsimp only [setE] <;> with_unfolding_all rfl) ?_ | with_reducible refine z_gnc (by dsimp only [setE] <;> with_unfolding_all rfl) ?_ | with_reducible refine z_lc (by dsimp only [wipeE, setE] <;> with_unfolding_all rfl) ?_ | with_reducible refine x_len0 (by with_unfolding_all rfl) ?_ | with_reducible refine z_ixT (by with_unfolding_all rfl) ?_ | with_reducible refine z_ixL (by with_unfolding_all rfl) ?_ | with_reducible refine z_walkO (by with_unfolding_all rfl) ?_ | with_reducible refine z_walkOE (by with_unfolding_all rfl) ?_ | with_reducible refine z_app (by with_unfolding_all rfl) ?_ | with_reducible refine z_set (by with_unfolding_all rfl) ?_ | with_reducible refine z_pop1 (by with_unfolding_all rfl) ?_ | with_reducible refine z_mv (by with_unfolding_all rfl) ?_ | with_reducible refine z_popT (by with_unfolding_all rfl) ?_ | with_reducible refine z_del (by with_unfolding_all rfl) ?_ | with_reducible refine z_listR (by omega) ?_ | with_reducible refine z_fld (by with_unfolding_all rfl) ?_ | with_reducible refine z_mod (by omega) ?_ | with_reducible refine z_div64 (by omega) ?_ | with_reducible refine z_mul64 (by omega) ?_ | with_reducible refine z_powL (by decide) (by decide) (by decide) ?_ | with_reducible refine z_shlL (by decide) (by decide) (by decide) ?_ | with_reducible refine z_rng (by omega) ?_ | with_reducible refine z_rng2 (by omega) ?_ | with_reducible refine x_iteT ?_ | with_reducible refine x_iteF ?_ | with_reducible refine z_ifT (by with_unfolding_all rfl) ?_ | with_reducible refine z_ifF (by with_unfolding_all rfl) ?_ | with_reducible refine z_iteP (by omega) ?_ | with_reducible refine z_iteM (by omega) ?_ | with_reducible refine z_iteNP (by omega) ?_ | with_reducible refine z_iteNM (by omega) ?_ | with_reducible refine z_eqS (by decide +kernel) (by decide +kernel) ?_ | with_reducible refine z_neS (by decide +kernel) (by decide +kernel) ?_ | with_reducible refine z_ifT (by decide +kernel) ?_ | with_reducible refine z_ifF (by decide +kernel) ?_)))
local macro_rules | `(tactic| get_elem_tactic_trivial) => `(tactic| (repeat (first | with_reducible apply z_asg | with_reducible apply z_ret | with_reducible apply z_retN | with_reducible apply z_drop | with_reducible apply z_next | with_reducible apply z_break | with_reducible apply z_cont | with_reducible apply z_if | with_reducible apply z_par | with_reducible apply z_walk | with_reducible apply z_c | with_reducible apply z_d1 | with_reducible apply z_d2 | with_reducible apply z_nil | with_reducible apply z_cons | with_reducible apply z_args | with_reducible apply z_call | with_reducible apply z_test | with_reducible apply z_asB | with_reducible apply z_andT | with_reducible apply z_orT | with_reducible apply z_notT | with_reducible apply z_andV | with_reducible apply z_orV | with_reducible apply z_notV | with_reducible apply z_ifE | with_reducible apply z_chain | with_reducible apply z_tup | with_reducible apply z_lst | with_reducible apply z_yes | with_reducible apply z_isi | with_reducible apply z_isiN | with_reducible apply z_isiB | with_reducible apply z_isiI | with_reducible apply z_isiS | with_reducible apply z_isiT | with_reducible apply z_isiL | with_reducible apply z_isiLoc | with_reducible apply z_isiW | with_reducible apply z_methLT | with_reducible apply z_methLTt | with_reducible apply z_methLTl | with_reducible apply z_gTup | with_reducible apply z_gWtup | with_reducible apply z_gnn | with_reducible apply z_gDrop | with_reducible apply z_add | with_reducible apply z_sub | with_reducible apply z_neg | with_reducible apply z_lt | with_reducible apply z_le | with_reducible apply z_gt | with_reducible apply z_ge | with_reducible apply z_eq | with_reducible apply z_ne | with_reducible apply z_eqB | with_reducible apply z_neB | with_reducible apply z_is | with_reducible apply z_isNot | with_reducible apply z_lenT | with_reducible apply z_lenL | with_reducible apply z_int | with_reducible apply z_tupT | with_reducible apply z_tupL | with_reducible apply z_listT | with_reducible apply z_listL | with_reducible apply z_wSeq | with_reducible apply z_wT | with_reducible apply z_wL | with_reducible apply z_wRng1 | with_reducible apply z_wRng2 | with_reducible apply z_wEnum | with_reducible apply z_dFld | with_reducible apply z_cut00 | with_reducible apply z_cut01 | with_reducible apply z_cut10 | with_reducible apply z_cut11 | with_reducible apply z_asI | with_reducible apply z_cutT | with_reducible apply z_cutL | with_reducible apply z_nT | with_reducible apply z_nF | with_reducible apply z_max2 | with_reducible apply z_min2 | with_reducible apply z_bits | with_reducible apply z_raise | with_reducible apply z_try | with_reducible apply z_revL | with_reducible refine z_var (by with_unfolding_all rfl) ?_ | with_reducible refine z_gName (by dsimp only [setE] <;> with_unfolding_all rfl) ?_ | with_reducible refine z_gnc (by dsimp only [setE] <;> with_unfolding_all rfl) ?_ | with_reducible refine z_lc (by dsimp only [wipeE, setE] <;> with_unfolding_all rfl) ?_ | with_reducible refine x_len0 (by with_unfolding_all rfl) ?_ | with_reducible refine z_ixT (by with_unfolding_all rfl) ?_ | with_reducible refine z_ixL (by with_unfolding_all rfl) ?_ | with_reducible refine z_walkO (by with_unfolding_all rfl) ?_ | with_reducible refine z_walkOE (by with_unfolding_all rfl) ?_ | with_reducible refine z_app (by with_unfolding_all rfl) ?_ | with_reducible refine z_set (by with_unfolding_all rfl) ?_ | with_reducible refine z_pop1 (by with_unfolding_all rfl) ?_ | with_reducible refine z_mv (by with_unfolding_all rfl) ?_ | with_reducible refine z_popT (by with_unfolding_all rfl) ?_ | with_reducible refine z_del (by with_unfolding_all rfl) ?_ | with_reducible refine z_listR (by omega) ?_ | with_reducible refine z_fld (by with_unfolding_all rfl) ?_ | with_reducible refine z_mod (by omega) ?_ | with_reducible refine z_div64 (by omega) ?_ | with_reducible refine z_mul64 (by omega) ?_ | with_reducible refine z_powL (by decide) (by decide) (by decide) ?_ | with_reducible refine z_shlL (by decide) (by decide) (by decide) ?_ | with_reducible refine z_rng (by omega) ?_ | with_reducible refine z_rng2 (by omega) ?_ | with_reducible refine x_iteT ?_ | with_reducible refine x_iteF ?_ | with_reducible refine z_ifT (by with_unfolding_all rfl) ?_ | with_reducible refine z_ifF (by with_unfolding_all rfl) ?_ | with_reducible refine z_iteP (by omega) ?_ | with_reducible refine z_iteM (by omega) ?_ | with_reducible refine z_iteNP (by omega) ?_ | with_reducible refine z_iteNM (by omega) ?_ | with_reducible refine z_eqS (by decide +kernel) (by decide +kernel) ?_ | with_reducible refine z_neS (by decide +kernel) (by decide +kernel) ?_ | with_reducible refine z_ifT (by decide +kernel) ?_ | with_reducible refine z_ifF (by decide +kernel) ?_)))

def DieOk (die : List Int) : Prop := 2 ≤ die.length ∧ die.length ≤ 5 ∧ (∀ n ∈ die, 1 ≤ n ∧ n ≤ 5) ∧ ∃ x y : Int, ∀ n ∈ die, n = x ∨ n = y
theorem len_range (lo : Int) (n : Nat) : (rangeL lo n).length = n := by simp [rangeL]
theorem t_die {Q : VQ} {E : VX} (h : ∀ die, DieOk die → gcdL die 0 = 1 → Q (.tup (die.map D.int))) : w__law_die [.non] Q E := by
  refine vb_mk rfl ?_
  unfold v__law_die
  show tSeq _ _ _ [some .non, none, none, none, none, none, none, none, none, none]
  decreasing_trivial_pre_omega
  refine z_spend (by decide) fun many a0 a1 => ?_
  decreasing_trivial_pre_omega
  refine z_spend (by decide) fun one b0 b1 => ?_
  decreasing_trivial_pre_omega
  refine z_spend (by decide) fun other c0 c1 => ?_
  decreasing_trivial_pre_omega
  refine z_spend (by decide) fun habit d0 d1 => ?_
  decreasing_trivial_pre_omega
  refine z_spend (by omega) fun lone e0 e1 => ?_
  decreasing_trivial_pre_omega
  have e1' : 1 ≤ 1 + one ∧ 1 + one ≤ 5 := by omega
  have e2' : 1 ≤ 1 + other ∧ 1 + other ≤ 5 := by omega
  generalize 1 + one = w1 at e1'
  generalize 1 + other = w2 at e2'
  refine z_forR (fun k σ => ∃ (ns : List Int) (s7 s8 s9 : Option D), σ = [some .non, some (.int (2 + many)), some (.int w1), some (.int w2), some (.int habit), some (.int lone), some (.rol (ns.map D.int)), s7, s8, s9] ∧ ns.length = k ∧ ∀ v ∈ ns, v = w1 ∨ v = w2) ⟨[], _, _, _, rfl, rfl, by simp⟩ (fun k σ N hk hI hN => ?_) fun σ hI => ?_
  · obtain ⟨ns, s7, s8, s9, rfl, hl, hv⟩ := hI
    have fin : ∀ v, (v = w1 ∨ v = w2) → (ns.map D.int).length < LINE ∧ hName 6 (.rol (ns.map D.int ++ [.int v])) [some .non, some (.int (2 + many)), some (.int w1), some (.int w2), some (.int habit), some (.int lone), some (.rol (ns.map D.int)), some (.int (0 + (k : Nat))), s8, s9] N := fun v hw => by
      refine ⟨by rw [List.length_map]; unfold LINE; omega, ?_⟩
      rw [app_ints]
      decreasing_trivial_pre_omega
      refine hN _ ⟨ns ++ [v], _, _, _, rfl, by rw [List.length_append, hl]; rfl, fun u hu => ?_⟩
      rcases List.mem_append.mp hu with z | z
      · exact hv u z
      · have : u = v := by simpa using z
        rw [this]; exact hw
    have h4 : habit = 0 ∨ habit = 1 ∨ habit = 2 ∨ habit = 3 := by omega
    by_cases hat : (0 : Int) + (k : Nat) = lone
    · decreasing_trivial_pre_omega
      refine z_one rfl (by simp) (by simp only [List.length_cons, List.length_nil]; decide) fun d hd => ?_
      obtain ⟨v, rfl, hw⟩ : ∃ v : Int, d = .int v ∧ (v = w1 ∨ v = w2) := by
        simp only [List.mem_cons, List.not_mem_nil, or_false] at hd
        rcases hd with rfl | rfl
        · exact ⟨_, rfl, .inl rfl⟩
        · exact ⟨_, rfl, .inr rfl⟩
      rcases h4 with rfl | rfl | rfl | rfl
      · decreasing_trivial_pre_omega
        exact fin _ (.inr rfl)
      · decreasing_trivial_pre_omega
        exact fin _ (.inl rfl)
      · decreasing_trivial_pre_omega
        exact fin _ (.inl rfl)
      · decreasing_trivial_pre_omega
        exact fin _ hw
    · decreasing_trivial_pre_omega
      refine z_one rfl (by simp) (by simp only [List.length_cons, List.length_nil]; decide) fun d hd => ?_
      obtain ⟨v, rfl, hw⟩ : ∃ v : Int, d = .int v ∧ (v = w1 ∨ v = w2) := by
        simp only [List.mem_cons, List.not_mem_nil, or_false] at hd
        rcases hd with rfl | rfl
        · exact ⟨_, rfl, .inl rfl⟩
        · exact ⟨_, rfl, .inr rfl⟩
      rcases h4 with rfl | rfl | rfl | rfl
      · decreasing_trivial_pre_omega
        exact fin _ (.inl rfl)
      · decreasing_trivial_pre_omega
        exact fin _ (.inr rfl)
      · decreasing_trivial_pre_omega
        exact fin _ (.inl rfl)
      · decreasing_trivial_pre_omega
        exact fin _ hw
  · obtain ⟨ns, s7, s8, s9, rfl, hl, hv⟩ := hI
    have pos : ∀ n ∈ ns, 1 ≤ n ∧ n ≤ 5 := fun n hn => by
      rcases hv n hn with z | z <;> omega
    have wo : WOk ns := ⟨by omega, by omega, fun n hn => by have := pos n hn; omega⟩
    decreasing_trivial_pre_omega
    refine z_commonL (fun n hn => by have := (pos n hn).1; omega) ?_
    refine z_gName (by dsimp only [setE] <;> with_unfolding_all rfl) ?_
    refine z_ret (z_args (z_cons ?_))
    refine z_over (g := ((gcdL ns 0 : Nat) : Int)) (ns := ns) (fun R h => ?_) (fun _ => by with_unfolding_all rfl) (fun _ => by with_unfolding_all rfl) (line1000 (by omega)) wo.gcd ?_
    · decreasing_trivial_pre_omega
      exact h
    · have el : ns.map (fun n => n / ((gcdL ns 0 : Nat) : Int)) = lowI ns := rfl
      rw [el]
      decreasing_trivial_pre_omega
      refine h _ ⟨wo.low.1, wo.low.2.1, fun n hn => ?_, w1 / ((gcdL ns 0 : Nat) : Int), w2 / ((gcdL ns 0 : Nat) : Int), fun n hn => ?_⟩ wo.one
      · obtain ⟨k, hk, rfl⟩ := List.mem_map.mp hn
        have := pos k hk
        have := div_mem hk this.1
        omega
      · obtain ⟨k, hk, rfl⟩ := List.mem_map.mp hn
        rcases hv k hk with z | z
        · exact .inl (by rw [z])
        · exact .inr (by rw [z])
theorem t_weights {die : List Int} {Q : VQ} {E : VX} (hd : DieOk die) (h : ∀ ns, WOk ns → Q (.tup (ns.map D.int))) : w__law_weights [.non, .tup (die.map D.int)] Q E := by
  refine vb_mk rfl ?_
  unfold v__law_weights
  show tSeq _ _ _ [some .non, some (.tup (die.map D.int)), none, none, none, none, none]
  obtain ⟨hd1, hd2, hd3, _⟩ := hd
  decreasing_trivial_pre_omega
  refine z_spend (by decide) fun t t0 t1 => ?_
  decreasing_trivial_pre_omega
  have ht : 1 ≤ 1 + t ∧ 1 + t ≤ 200 := by omega
  generalize 1 + t = times at ht ⊢
  refine z_lcII (fun n => n * times) (by unfold LINE; omega) (fun n hm R h => ?_) ?_
  · have := hd3 n hm
    decreasing_trivial_pre_omega
    exact h
  · decreasing_trivial_pre_omega
    refine z_spend (by decide) fun kind k0 k1 => ?_
    have hn : ∀ n ∈ die.map (fun n => n * times), 1 ≤ n ∧ n < 2 ^ 64 := fun n hm => by
      obtain ⟨k, hk, rfl⟩ := List.mem_map.mp hm
      have hk := hd3 k hk
      have h1 : 1 * 1 ≤ k * times := Int.mul_le_mul hk.1 ht.1 (by decide) (by omega)
      have h2 : k * times ≤ 5 * 200 := Int.mul_le_mul hk.2 ht.2 (by omega) (by decide)
      omega
    have hl : (die.map (fun n => n * times)).length = die.length := List.length_map ..
    generalize die.map (fun n => n * times) = ps at hn hl ⊢
    have fin : ∀ (ps : List Int), ps.length = die.length → (∀ n ∈ ps, 1 ≤ n ∧ n < 2 ^ 64) → Q (.tup (ps.map D.int)) := fun ps hl hn => h ps ⟨by omega, by omega, hn⟩
    have hpl : (ps.map D.int).length = ps.length := List.length_map ..
    by_cases k1 : kind = 1
    · decreasing_trivial_pre_omega
      refine z_spend (by decide) fun v v0 v1 => ?_
      decreasing_trivial_pre_omega
      refine z_spend (by omega) fun j j0 j1 => ?_
      refine z_asI (z_ixn j0 (by omega) ?_)
      rw [set_ints]
      decreasing_trivial_pre_omega
      exact fin _ (by rw [List.length_set]; exact hl) fun n hm => mem_set_of hn (by omega) hm
    · by_cases k2 : kind = 2
      · decreasing_trivial_pre_omega
        refine z_spend (by decide) fun v v0 v1 => ?_
        decreasing_trivial_pre_omega
        refine z_spend (by omega) fun j j0 j1 => ?_
        refine z_asI (z_ixn j0 (by omega) ?_)
        rw [set_ints]
        have h1 : 1 * 1 ≤ times * (1 + v) := Int.mul_le_mul ht.1 (by omega) (by decide) (by omega)
        have h2 : times * (1 + v) ≤ 200 * 5 := Int.mul_le_mul ht.2 (by omega) (by omega) (by decide)
        decreasing_trivial_pre_omega
        exact fin _ (by rw [List.length_set]; exact hl) fun n hm => mem_set_of hn (by omega) hm
      · by_cases k3 : kind = 3
        · decreasing_trivial_pre_omega
          refine z_lcP (fun n => 1 ≤ n ∧ n < 2 ^ 64) (by rw [List.length_map]; unfold LINE; omega) (fun x hx R hR => ?_) fun ns hl hn => ?_
          · decreasing_trivial_pre_omega
            refine z_one rfl (by simp) (by decide) fun d hd => ?_
            obtain ⟨most, rfl, hm⟩ : ∃ most : Int, d = .int most ∧ 2 ≤ most ∧ most ≤ 1000 := by
              simp only [List.mem_cons, List.not_mem_nil, or_false] at hd
              rcases hd with rfl | rfl | rfl <;> exact ⟨_, rfl, by decide, by decide⟩
            decreasing_trivial_pre_omega
            refine z_spend (by omega) fun t t0 t1 => ?_
            decreasing_trivial_pre_omega
            exact hR _ (by omega)
          · rw [List.length_map] at hl
            decreasing_trivial_pre_omega
            exact fin _ hl hn
        · decreasing_trivial_pre_omega
          exact fin _ hl hn
/-! ### turned dice -/
def turnI (die : List Int) (many : Int) : List Int := die.drop (many % die.length).toNat ++ die.take (many % die.length).toNat
theorem len_turn (die : List Int) (many : Int) : (turnI die many).length = die.length := by
  unfold turnI; rw [List.length_append, List.length_drop, List.length_take]; omega
theorem cut_drop {ns : List Int} {c : Int} (h0 : 0 ≤ c) (h1 : c ≤ ns.length) : cutL (ns.map D.int) (some c) none = (ns.drop c.toNat).map D.int := by
  unfold cutL cutIx
  simp only [List.length_map]
  rw [if_neg (by omega), Nat.min_eq_left (by omega), ← List.map_drop, List.take_of_length_le (by rw [List.length_map, List.length_drop]; omega)]
theorem cut_take {ns : List Int} {c : Int} (h0 : 0 ≤ c) (h1 : c ≤ ns.length) : cutL (ns.map D.int) none (some c) = (ns.take c.toNat).map D.int := by
  unfold cutL cutIx
  simp only [List.length_map]
  rw [if_neg (by omega), Nat.min_eq_left (by omega), List.drop_zero, Nat.sub_zero, ← List.map_take]
theorem t_turned {die : List Int} {many : Int} {Q : VQ} {E : VX} (h1 : 1 ≤ die.length) (h2 : die.length ≤ 1000) (q : Q (.tup ((turnI die many).map D.int))) : w_turned_die [.tup (die.map D.int), .int many] Q E := by
  refine vb_mk rfl ?_
  unfold v_turned_die
  show tSeq _ _ _ [some (.tup (die.map D.int)), some (.int many), none]
  have hl : (die.map D.int).length = die.length := List.length_map ..
  decreasing_trivial_pre_omega
  rw [hl]
  have c0 : 0 ≤ many % (die.length : Int) := Int.emod_nonneg _ (by omega)
  have c1 : many % (die.length : Int) < die.length := Int.emod_lt_of_pos _ (by omega)
  rw [cut_drop c0 (by omega), cut_take c0 (by omega)]
  refine z_addT (by rw [List.length_map, List.length_map, List.length_drop, List.length_take]; unfold LINE; omega) ?_
  rw [← List.map_append]
  exact q
/-- the law's own turning -/
theorem turn_range {die : List Int} {many : Int} (h1 : 1 ≤ die.length) : (irange 0 die.length).map (fun i => ((turnI die many).map D.int)[i.toNat]?.getD .non) = (turnI die many).map D.int := by
  refine List.ext_getElem (by rw [List.length_map, len_irange, List.length_map, len_turn]) fun n k1 k2 => ?_
  have hn : n < die.length := by rw [List.length_map, len_irange] at k1; exact k1
  have hn2 : n < (turnI die many).length := by rw [len_turn]; exact hn
  simp [irange, List.getElem?_map, List.getElem?_eq_getElem hn2]
theorem turn_at {die : List Int} {many i : Int} (h1 : 1 ≤ die.length) (h0 : 0 ≤ i) (hi : i < die.length) : atI (die.map D.int) ((i + many) % die.length) = some (((turnI die many).map D.int)[i.toNat]?.getD .non) := by
  have c0 : 0 ≤ many % (die.length : Int) := Int.emod_nonneg _ (by omega)
  have c1 : many % (die.length : Int) < die.length := Int.emod_lt_of_pos _ (by omega)
  have m0 : 0 ≤ (i + many) % (die.length : Int) := Int.emod_nonneg _ (by omega)
  have m1 : (i + many) % (die.length : Int) < die.length := Int.emod_lt_of_pos _ (by omega)
  obtain ⟨j, hj⟩ := Int.eq_ofNat_of_zero_le m0
  obtain ⟨c, hc⟩ := Int.eq_ofNat_of_zero_le c0
  have ej : (j : Int) = if i + c < die.length then i + c else i + c - die.length := by
    rw [← hj, Int.add_emod, hc, Int.emod_eq_of_lt h0 hi]
    split
    · rw [Int.emod_eq_of_lt (by omega) (by omega)]
    · rw [← Int.sub_emod_right, Int.emod_eq_of_lt (by omega) (by omega)]
  have hjl : j < die.length := by omega
  rw [hj]
  have e1 : (die.map D.int)[j]? = some (.int die[j]) := by rw [List.getElem?_map, List.getElem?_eq_getElem hjl]; rfl
  rw [at_nat e1]
  have e2 : (turnI die many)[i.toNat]? = some die[j] := by
    unfold turnI
    rw [hc, Int.toNat_natCast]
    by_cases hs : i + c < die.length
    · rw [if_pos hs] at ej
      rw [List.getElem?_append_left (by rw [List.length_drop]; omega), List.getElem?_drop, show c + i.toNat = j by omega, List.getElem?_eq_getElem hjl]
    · rw [if_neg hs] at ej
      rw [List.getElem?_append_right (by rw [List.length_drop]; omega), List.length_drop, List.getElem?_take, if_pos (by omega), show i.toNat - (die.length - c) = j by omega, List.getElem?_eq_getElem hjl]
  rw [List.getElem?_map, e2]; rfl
end L_throwntrue_k01_die_edits
set_option linter.all false
set_option maxRecDepth 100000
namespace L_throwntrue_k01_die_edits
open PySem PD
local macro_rules | `(tactic| decreasing_trivial_pre_omega) => `(tactic| (repeat (first | with_reducible apply z_seq | with_reducible apply z_asg | with_reducible apply z_ret | with_reducible apply z_retN | with_reducible apply z_drop | with_reducible apply z_next | with_reducible apply z_break | with_reducible apply z_cont | with_reducible apply z_if | with_reducible apply z_par | with_reducible apply z_walk | with_reducible apply z_c | with_reducible apply z_d1 | with_reducible apply z_d2 | with_reducible apply z_nil | with_reducible apply z_cons | with_reducible apply z_args | with_reducible apply z_call | with_reducible apply z_test | with_reducible apply z_asB | with_reducible apply z_andT | with_reducible apply z_orT | with_reducible apply z_notT | with_reducible apply z_andV | with_reducible apply z_orV | with_reducible apply z_notV | with_reducible apply z_ifE | with_reducible apply z_chain | with_reducible apply z_tup | with_reducible apply z_lst | with_reducible apply z_yes | with_reducible apply z_isi | with_reducible apply z_isiN | with_reducible apply z_isiB | with_reducible apply z_isiI | with_reducible apply z_isiS | with_reducible apply z_isiT | with_reducible apply z_isiL | with_reducible apply z_isiLoc | with_reducible apply z_isiW | with_reducible apply z_methLT | with_reducible apply z_methLTt | with_reducible apply z_methLTl | with_reducible apply z_gTup | with_reducible apply z_gWtup | with_reducible apply z_gnn | with_reducible apply z_gDrop | with_reducible apply z_add | with_reducible apply z_sub | with_reducible apply z_neg | with_reducible apply z_lt | with_reducible apply z_le | with_reducible apply z_gt | with_reducible apply z_ge | with_reducible apply z_eq | with_reducible apply z_ne | with_reducible apply z_eqB | with_reducible apply z_neB | with_reducible apply z_is | with_reducible apply z_isNot | with_reducible apply z_lenT | with_reducible apply z_lenL | with_reducible apply z_int | with_reducible apply z_tupT | with_reducible apply z_tupL | with_reducible apply z_listT | with_reducible apply z_listL | with_reducible apply z_wSeq | with_reducible apply z_wT | with_reducible apply z_wL | with_reducible apply z_wRng1 | with_reducible apply z_wRng2 | with_reducible apply z_wEnum | with_reducible apply z_dFld | with_reducible apply z_cut00 | with_reducible apply z_cut01 | with_reducible apply z_cut10 | with_reducible apply z_cut11 | with_reducible apply z_asI | with_reducible apply z_cutT | with_reducible apply z_cutL | with_reducible apply z_nT | with_reducible apply z_nF | with_reducible apply z_max2 | with_reducible apply z_min2 | with_reducible apply z_bits | with_reducible apply z_raise | with_reducible apply z_try | with_reducible apply z_revL | with_reducible refine z_var (by with_unfolding_all rfl) ?_ | with_reducible refine z_gName (by dsimp only [setE] <;> with_unfolding_all rfl) ?_ | with_reducible refine z_gnc (by dsimp only [setE] <;> with_unfolding_all rfl) ?_ | with_reducible refine z_lc (by dsimp only [wipeE, setE] <;> with_unfolding_all rfl) ?_ | with_reducible refine x_len0 (by with_unfolding_all rfl) ?_ | with_reducible refine z_ixT (by with_unfolding_all rfl) ?_ | with_reducible refine z_ixL (by with_unfolding_all rfl) ?_ | with_reducible refine z_walkO (by with_unfolding_all rfl) ?_ | with_reducible refine z_walkOE (by with_unfolding_all rfl) ?_ | with_reducible refine z_app (by with_unfolding_all rfl) ?_ | with_reducible refine z_set (by with_unfolding_all rfl) ?_ | with_reducible refine z_pop1 (by with_unfolding_all rfl) ?_ | with_reducible refine z_mv (by with_unfolding_all rfl) ?_ | with_reducible refine z_popT (by with_unfolding_all rfl) ?_ | with_reducible refine z_del (by with_unfolding_all rfl) ?_ | with_reducible refine z_listR (by omega) ?_ | with_reducible refine z_fld (by with_unfolding_all rfl) ?_ | with_reducible refine z_mod (by omega) ?_ | with_reducible refine z_div64 (by omega) ?_ | with_reducible refine z_mul64 (by omega) ?_ | with_reducible refine z_powL (by decide) (by decide) (by decide) ?_ | with_reducible refine z_shlL (by decide) (by decide) (by decide) ?_ | with_reducible refine z_rng (by omega) ?_ | with_reducible refine z_rng2 (by omega) ?_ | with_reducible refine x_iteT ?_ | with_reducible refine x_iteF ?_ | with_reducible refine z_ifT (by with_unfolding_all rfl) ?_ | with_reducible refine z_ifF (by with_unfolding_all rfl) ?_ | with_reducible refine z_iteP (by omega) ?_ | with_reducible refine z_iteM (by omega) ?_ | with_reducible refine z_iteNP (by omega) ?_ | with_reducible refine z_iteNM (by omega) ?_ | with_reducible refine z_eqS (by decide +kernel) (by decide +kernel) ?_ | with_reducible refine z_neS (by decide +kernel) (by decide +kernel) ?_ | with_reducible refine z_ifT (by decide +kernel) ?_ | with_reducible refine z_ifF (by decide +kernel) ?_)))
local macro_rules | `(tactic| get_elem_tactic_trivial) => `(tactic| (repeat (first | with_reducible apply z_asg | with_reducible apply z_ret | with_reducible apply z_retN | with_reducible apply z_drop | with_reducible apply z_next | with_reducible apply z_break | with_reducible apply z_cont | with_reducible apply z_if | with_reducible apply z_par | with_reducible apply z_walk | with_reducible apply z_c | with_reducible apply z_d1 | with_reducible apply z_d2 | with_reducible apply z_nil | with_reducible apply z_cons | with_reducible apply z_args | with_reducible apply z_call | with_reducible apply z_test | with_reducible apply z_asB | with_reducible apply z_andT | with_reducible apply z_orT | with_reducible apply z_notT | with_reducible apply z_andV | with_reducible apply z_orV | with_reducible apply z_notV | with_reducible apply z_ifE | with_reducible apply z_chain | with_reducible apply z_tup | with_reducible apply z_lst | with_reducible apply z_yes | with_reducible apply z_isi | with_reducible apply z_isiN | with_reducible apply z_isiB | with_reducible apply z_isiI | with_reducible apply z_isiS | with_reducible apply z_isiT | with_reducible apply z_isiL | with_reducible apply z_isiLoc | with_reducible apply z_isiW | with_reducible apply z_methLT | with_reducible apply z_methLTt | with_reducible apply z_methLTl | with_reducible apply z_gTup | with_reducible apply z_gWtup | with_reducible apply z_gnn | with_reducible apply z_gDrop | with_reducible apply z_add | with_reducible apply z_sub | with_reducible apply z_neg | with_reducible apply z_lt | with_reducible apply z_le | with_reducible apply z_gt | with_reducible apply z_ge | with_reducible apply z_eq | with_reducible apply z_ne | with_reducible apply z_eqB | with_reducible apply z_neB | with_reducible apply z_is | with_reducible apply z_isNot | with_reducible apply z_lenT | with_reducible apply z_lenL | with_reducible apply z_int | with_reducible apply z_tupT | with_reducible apply z_tupL | with_reducible apply z_listT | with_reducible apply z_listL | with_reducible apply z_wSeq | with_reducible apply z_wT | with_reducible apply z_wL | with_reducible apply z_wRng1 | with_reducible apply z_wRng2 | with_reducible apply z_wEnum | with_reducible apply z_dFld | with_reducible apply z_cut00 | with_reducible apply z_cut01 | with_reducible apply z_cut10 | with_reducible apply z_cut11 | with_reducible apply z_asI | with_reducible apply z_cutT | with_reducible apply z_cutL | with_reducible apply z_nT | with_reducible apply z_nF | with_reducible apply z_max2 | with_reducible apply z_min2 | with_reducible apply z_bits | with_reducible apply z_raise | with_reducible apply z_try | with_reducible apply z_revL | with_reducible refine z_var (by with_unfolding_all rfl) ?_ | with_reducible refine z_gName (by dsimp only [setE] <;> with_unfolding_all rfl) ?_ | with_reducible refine z_gnc (by dsimp only [setE] <;> with_unfolding_all rfl) ?_ | with_reducible refine z_lc (by dsimp only [wipeE, setE] <;> with_unfolding_all rfl) ?_ | with_reducible refine x_len0 (by with_unfolding_all rfl) ?_ | with_reducible refine z_ixT (by with_unfolding_all rfl) ?_ | with_reducible refine z_ixL (by with_unfolding_all rfl) ?_ | with_reducible refine z_walkO (by with_unfolding_all rfl) ?_ | with_reducible refine z_walkOE (by with_unfolding_all rfl) ?_ | with_reducible refine z_app (by with_unfolding_all rfl) ?_ | with_reducible refine z_set (by with_unfolding_all rfl) ?_ | with_reducible refine z_pop1 (by with_unfolding_all rfl) ?_ | with_reducible refine z_mv (by with_unfolding_all rfl) ?_ | with_reducible refine z_popT (by with_unfolding_all rfl) ?_ | with_reducible refine z_del (by with_unfolding_all rfl) ?_ | with_reducible refine z_listR (by omega) ?_ | with_reducible refine z_fld (by with_unfolding_all rfl) ?_ | with_reducible refine z_mod (by omega) ?_ | with_reducible refine z_div64 (by omega) ?_ | with_reducible refine z_mul64 (by omega) ?_ | with_reducible refine z_powL (by decide) (by decide) (by decide) ?_ | with_reducible refine z_shlL (by decide) (by decide) (by decide) ?_ | with_reducible refine z_rng (by omega) ?_ | with_reducible refine z_rng2 (by omega) ?_ | with_reducible refine x_iteT ?_ | with_reducible refine x_iteF ?_ | with_reducible refine z_ifT (by with_unfolding_all rfl) ?_ | with_reducible refine z_ifF (by with_unfolding_all rfl) ?_ | with_reducible refine z_iteP (by omega) ?_ | with_reducible refine z_iteM (by omega) ?_ | with_reducible refine z_iteNP (by omega) ?_ | with_reducible refine z_iteNM (by omega) ?_ | with_reducible refine z_eqS (by decide +kernel) (by decide +kernel) ?_ | with_reducible refine z_neS (by decide +kernel) (by decide +kernel) ?_ | with_reducible refine z_ifT (by decide +kernel) ?_ | with_reducible refine z_ifF (by decide +kernel) ?_)))

/-! ### the form of a die -/
def idx (P : Int → Bool) : List Int → Nat → List Int
  | [], _ => []
  | n :: ns, k => if P n = true then (k : Int) :: idx P ns (k + 1) else idx P ns (k + 1)
def wIdx : D → D
  | .wtup [i, _] => i
  | _ => .non
def wOk (P : Int → Bool) : D → Bool
  | .wtup [_, .int n] => P n
  | _ => false
theorem enum_idx (P : Int → Bool) : ∀ (ns : List Int) (k : Nat), ((enumL (ns.map D.int) k).filter (wOk P)).map wIdx = (idx P ns k).map D.int
  | [], k => rfl
  | n :: ns, k => by
    show (((D.wtup [.int k, .int n] :: enumL (ns.map D.int) (k + 1)).filter (wOk P)).map wIdx) = _
    unfold idx
    by_cases h : P n = true
    · rw [List.filter_cons_of_pos (show wOk P (D.wtup [.int k, .int n]) = true from h), if_pos h, List.map_cons, List.map_cons, enum_idx P ns (k + 1)]
      rfl
    · rw [List.filter_cons_of_neg (show ¬ wOk P (D.wtup [.int k, .int n]) = true from h), if_neg h]
      exact enum_idx P ns (k + 1)
theorem enum_mem : ∀ {ns : List Int} {k : Nat} {x : D}, x ∈ enumL (ns.map D.int) k → ∃ i n : Int, x = .wtup [.int i, .int n] ∧ n ∈ ns
  | n :: ns, k, x, h => by
    rcases List.mem_cons.mp (show x ∈ D.wtup [.int k, .int n] :: enumL (ns.map D.int) (k + 1) from h) with e | h
    · exact ⟨_, _, e, List.mem_cons_self ..⟩
    · obtain ⟨i, m, e, hm⟩ := enum_mem h
      exact ⟨i, m, e, List.mem_cons_of_mem _ hm⟩
theorem enumL_length : ∀ (xs : List D) (k : Nat), (enumL xs k).length = xs.length
  | [], _ => rfl
  | x :: xs, k => congrArg Nat.succ (enumL_length xs (k + 1))
theorem idx_ok (P : Int → Bool) : ∀ (ns : List Int) (k : Nat) (i : Int), i ∈ idx P ns k → (k : Int) ≤ i ∧ i < k + ns.length
  | [], k, i, h => by cases h
  | n :: ns, k, i, h => by
    unfold idx at h
    have step : i ∈ idx P ns (k + 1) → (k : Int) ≤ i ∧ i < k + (n :: ns).length := fun h => by
      have := idx_ok P ns (k + 1) i h
      rw [List.length_cons]
      push_cast at this ⊢
      omega
    by_cases hp : P n = true
    · rw [if_pos hp] at h
      rcases List.mem_cons.mp h with z | z
      · rw [z, List.length_cons]; push_cast; omega
      · exact step z
    · rw [if_neg hp] at h; exact step h
theorem idx_len (P : Int → Bool) : ∀ (ns : List Int) (k : Nat), (idx P ns k).length ≤ ns.length
  | [], _ => Nat.le_refl _
  | n :: ns, k => by
    unfold idx
    have := idx_len P ns (k + 1)
    split <;> simp only [List.length_cons] <;> omega
abbrev lightP (d0 : Int) : Int → Bool := fun n => decide (n ≠ d0)
def lightI (d0 : Int) (ds : List Int) : List Int := idx (lightP d0) (d0 :: ds) 0
theorem t_light {d0 : Int} {ds : List Int} {Q : VQ} {E : VX} (hl : ds.length < 1000) (q : Q (.tup ((lightI d0 ds).map D.int))) : w_light_faces [.tup ((d0 :: ds).map D.int)] Q E := by
  refine vb_mk rfl ?_
  unfold v_light_faces
  show tRet _ _ [some (.tup ((d0 :: ds).map D.int)), none, none]
  have at0 : atI ((d0 :: ds).map D.int) 0 = some (.int d0) := at_nat (k := 0) rfl
  decreasing_trivial_pre_omega
  refine z_lcF (wOk (lightP d0)) wIdx (by rw [enumL_length, List.length_map, List.length_cons]; unfold LINE; omega) (fun x hx R N h1 h2 => ?_) ?_
  · obtain ⟨i, n, rfl, hn⟩ := enum_mem hx
    decreasing_trivial_pre_omega
    refine z_ixT at0 ?_
    decreasing_trivial_pre_omega
    by_cases h : n = d0
    · refine z_iteM (by simp [h]) ?_
      exact h2 (by simp [wOk, lightP]; exact h)
    · refine z_iteP h ?_
      decreasing_trivial_pre_omega
      exact h1 (by simp [wOk, lightP]; exact h)
  · rw [enum_idx]
    decreasing_trivial_pre_omega
    exact q
def formD (d0 : Int) (ds : List Int) : D := .tup [.int d0, .int ((((d0 :: ds).map D.int).length : Nat) - ((lightI d0 ds).length : Nat)), match lightI d0 ds with | [] => .int 1 | i :: _ => .int ((d0 :: ds)[i.toNat]?.getD 0), .int ((lightI d0 ds).length : Nat)]
theorem t_form {d0 : Int} {ds : List Int} {Q : VQ} {E : VX} (hl : ds.length < 1000) (q : Q (formD d0 ds)) : w_die_form [.tup ((d0 :: ds).map D.int)] Q E := by
  refine vb_mk rfl ?_
  unfold v_die_form
  show tSeq _ _ _ [some (.tup ((d0 :: ds).map D.int)), none, none]
  have at0 : atI ((d0 :: ds).map D.int) 0 = some (.int d0) := at_nat (k := 0) rfl
  unfold formD at q
  decreasing_trivial_pre_omega
  refine t_light hl ?_
  have hi := idx_ok (lightP d0) (d0 :: ds) 0
  have ei : lightI d0 ds = idx (lightP d0) (d0 :: ds) 0 := rfl
  rw [← ei] at hi
  generalize lightI d0 ds = L at hi q
  have e3 : ((L.map D.int).length : Int) = (L.length : Nat) := by rw [List.length_map]
  cases L with
  | nil =>
    decreasing_trivial_pre_omega
    refine z_ixT at0 ?_
    decreasing_trivial_pre_omega
    exact q
  | cons i r =>
    obtain ⟨i0, i1⟩ := hi i (List.mem_cons_self ..)
    have hil : i.toNat < (d0 :: ds).length := by omega
    have ai : atI ((d0 :: ds).map D.int) i = some (.int (d0 :: ds)[i.toNat]) := by
      have := at_int (ns := d0 :: ds) (k := i.toNat) (List.getElem?_eq_getElem hil)
      rw [show ((i.toNat : Nat) : Int) = i by omega] at this
      exact this
    simp only [List.getElem?_eq_getElem hil, Option.getD_some] at q
    have ar : atI ((i :: r).map D.int) 0 = some (.int i) := at_nat (k := 0) rfl
    have hpos : (0 : Int) < ((i :: r).map D.int).length := by rw [List.length_map, List.length_cons]; omega
    rw [← e3] at q
    decreasing_trivial_pre_omega
    refine z_ixT ar ?_
    refine z_ixT ai ?_
    decreasing_trivial_pre_omega
    refine z_ixT at0 ?_
    decreasing_trivial_pre_omega
    exact q
theorem sm_form {d0 : Int} {ds : List Int} : Sm 2 10 (formD d0 ds) := by
  unfold formD
  refine sm_tup (d := 1) (n := 1) (fun x hx => ?_) (by simp)
  simp only [List.mem_cons, List.not_mem_nil, or_false] at hx
  rcases hx with rfl | rfl | rfl | rfl
  · exact sm_int (by decide) _
  · exact sm_int (by decide) _
  · split <;> exact sm_int (by decide) _
  · exact sm_int (by decide) _
/-! ### places by drawing -/
theorem erase_map : ∀ (l : List Int) (k : Nat), (l.map D.int).eraseIdx k = (l.eraseIdx k).map D.int
  | [], _ => rfl
  | _ :: _, 0 => rfl
  | a :: r, k + 1 => congrArg (D.int a :: ·) (erase_map r k)
theorem perm_erase : ∀ (l : List Int) (k : Nat) (h : k < l.length), (l[k] :: l.eraseIdx k).Perm l
  | a :: r, 0, _ => List.Perm.refl _
  | a :: r, k + 1, h => by
    have := perm_erase r k (by simpa using h)
    exact (List.Perm.swap ..).trans (this.cons a)
theorem popW_perm {i t : Nat} {te : VE} {Q : List D → List D → Prop} {σ : Ev} {all : List Int} (hall : all.length ≤ 1000)
    (he : ∀ (zs : List Int) (y : D) (R : VQ), 0 < zs.length → zs.length ≤ 1000 → (∀ k : Int, 0 ≤ k → k < zs.length → R (.int k)) → te (setE (setE (setE σ t none) i (some (.rol (zs.map D.int)))) t (some y)) R (fun _ => False))
    (fin : ∀ acc : List Int, acc.Perm all → Q [] (acc.map D.int)) : ∀ (ys : List D) (ls acc : List Int), ys.length = ls.length → (acc ++ ls).Perm all → popW i t te Q σ ys (ls.map D.int) (acc.map D.int)
  | [], [], acc, _, hp => by
    rw [List.append_nil] at hp
    exact fin acc hp
  | [], _ :: _, _, h, _ => by simp at h
  | _ :: _, [], _, h, _ => by simp at h
  | y :: ys, l :: ls, acc, h, hp => by
    have hlen : acc.length + (l :: ls).length = all.length := by rw [← hp.length_eq, List.length_append]
    refine he (l :: ls) y _ (by simp) (by omega) fun k k0 k1 => ?_
    have hk : k.toNat < (l :: ls).length := by omega
    refine z_asI ⟨by omega, z_ixn k0 (by rw [List.length_map]; omega) ?_⟩
    rw [List.getElem?_map, List.getElem?_eq_getElem hk]
    refine ⟨by rw [List.length_map]; unfold LINE; omega, ?_⟩
    have e1 : (((l :: ls).map D.int).eraseIdx k.toNat) = ((l :: ls).eraseIdx k.toNat).map D.int := erase_map _ _
    rw [e1, app_ints]
    refine popW_perm hall he fin ys _ _ (by rw [List.length_eraseIdx, if_pos hk]; simpa using h) ?_
    refine List.Perm.trans ?_ hp
    rw [List.append_assoc]
    refine List.Perm.append_left acc ?_
    exact perm_erase _ _ hk
/-! ### values put at places -/
def putAll : List (Nat × D) → List D → List D
  | [], b => b
  | (p, v) :: r, b => putAll r (b.set p v)
theorem putAll_len : ∀ (r : List (Nat × D)) (b : List D), (putAll r b).length = b.length
  | [], _ => rfl
  | (p, v) :: r, b => by rw [putAll, putAll_len r, List.length_set]
theorem putAll_app : ∀ (r s : List (Nat × D)) (b : List D), putAll (r ++ s) b = putAll s (putAll r b)
  | [], _, _ => rfl
  | (p, v) :: r, s, b => putAll_app r s (b.set p v)
theorem putAll_at : ∀ (r : List (Nat × D)) (b c : List D) (j : Nat), b.length = c.length → (b[j]? = c[j]? ∨ j ∈ r.map (·.1)) → (putAll r b)[j]? = (putAll r c)[j]?
  | [], b, c, j, _, h => by
    rcases h with h | h
    · exact h
    · cases h
  | (p, v) :: r, b, c, j, hl, h => by
    refine putAll_at r _ _ j (by rw [List.length_set, List.length_set]; exact hl) ?_
    by_cases hp : p = j
    · left
      subst hp
      rw [List.getElem?_set, List.getElem?_set, hl]
      simp
    · rcases h with h | h
      · left; rw [List.getElem?_set_ne hp, List.getElem?_set_ne hp]; exact h
      · right
        rcases List.mem_cons.mp h with z | z
        · exact absurd z.symm hp
        · exact z
theorem putAll_eq {r : List (Nat × D)} {b c : List D} (hl : b.length = c.length) (h : ∀ j, j < b.length → j ∈ r.map (·.1)) : putAll r b = putAll r c := by
  refine List.ext_getElem? fun j => ?_
  rcases Nat.lt_or_ge j b.length with z | z
  · exact putAll_at r b c j hl (.inr (h j z))
  · exact putAll_at r b c j hl (.inl (by rw [List.getElem?_eq_none z, List.getElem?_eq_none (by omega)]))
/-- places and what comes there -/
def prs (ps : List Int) (die : List Int) : List (Nat × D) := (ps.map Int.toNat).zip (die.map D.int)
theorem prs_take {ps die : List Int} {k : Nat} {p : Int} {d : Int} (hp : ps[k]? = some p) (hd : die[k]? = some d) : (prs ps die).take (k + 1) = (prs ps die).take k ++ [(p.toNat, .int d)] := by
  have : (prs ps die)[k]? = some (p.toNat, D.int d) := by
    unfold prs
    rw [List.getElem?_zip_eq_some]
    simp [List.getElem?_map, hp, hd]
  rw [List.take_succ, this]; rfl
theorem t_mixed {die ps : List Int} {Q : VQ} {E : VX} (hl : ps.length = die.length) (h2 : die.length ≤ 1000) (hp : ∀ p ∈ ps, 0 ≤ p ∧ p < die.length) (q : Q (.tup (putAll (prs ps die) (die.map D.int)))) : w_mixed_die [.tup (die.map D.int), .tup (ps.map D.int)] Q E := by
  refine vb_mk rfl ?_
  unfold v_mixed_die
  show tSeq _ _ _ [some (.tup (die.map D.int)), some (.tup (ps.map D.int)), none, none, none]
  decreasing_trivial_pre_omega
  refine z_forE (fun k σ => ∃ a b, σ = [some (.tup (die.map D.int)), some (.tup (ps.map D.int)), some (.rol (putAll ((prs ps die).take k) (die.map D.int))), a, b]) ⟨_, _, rfl⟩ (fun k x σ N hx hI hN => ?_) fun σ hI => ?_
  · obtain ⟨a, b, rfl⟩ := hI
    obtain ⟨p, hp1, rfl⟩ : ∃ p, ps[k]? = some p ∧ x = .int p := by
      rw [List.getElem?_map] at hx
      cases z : ps[k]? with
      | none => rw [z] at hx; cases hx
      | some p => rw [z] at hx; exact ⟨p, rfl, (Option.some.inj hx).symm⟩
    have hpm := hp p (List.mem_of_getElem? hp1)
    have hk : k < die.length := by
      rcases Nat.lt_or_ge k ps.length with z | z
      · omega
      · rw [List.getElem?_eq_none z] at hp1; cases hp1
    have hd := List.getElem?_eq_getElem hk
    decreasing_trivial_pre_omega
    refine z_ixT (at_int hd) ?_
    decreasing_trivial_pre_omega
    refine z_ixn hpm.1 (by rw [putAll_len, List.length_map]; exact hpm.2) ?_
    decreasing_trivial_pre_omega
    have e : putAll ((prs ps die).take (k + 1)) (die.map D.int) = (putAll ((prs ps die).take k) (die.map D.int)).set p.toNat (.int die[k]) := by
      rw [prs_take hp1 hd, putAll_app]; rfl
    exact hN _ ⟨_, _, by rw [e]⟩
  · obtain ⟨a, b, rfl⟩ := hI
    rw [List.take_of_length_le (by unfold prs; simp; omega)]
    decreasing_trivial_pre_omega
    exact q
end L_throwntrue_k01_die_edits
set_option linter.all false
set_option maxRecDepth 100000
namespace L_throwntrue_k01_die_edits
open PySem PD
local macro_rules | `(tactic| decreasing_trivial_pre_omega) => `(tactic| (repeat (first | with_reducible apply z_seq | with_reducible apply z_asg | with_reducible apply z_ret | with_reducible apply z_retN | with_reducible apply z_drop | with_reducible apply z_next | with_reducible apply z_break | with_reducible apply z_cont | with_reducible apply z_if | with_reducible apply z_par | with_reducible apply z_walk | with_reducible apply z_c | with_reducible apply z_d1 | with_reducible apply z_d2 | with_reducible apply z_nil | with_reducible apply z_cons | with_reducible apply z_args | with_reducible apply z_call | with_reducible apply z_test | with_reducible apply z_asB | with_reducible apply z_andT | with_reducible apply z_orT | with_reducible apply z_notT | with_reducible apply z_andV | with_reducible apply z_orV | with_reducible apply z_notV | with_reducible apply z_ifE | with_reducible apply z_chain | with_reducible apply z_tup | with_reducible apply z_lst | with_reducible apply z_yes | with_reducible apply z_isi | with_reducible apply z_isiN | with_reducible apply z_isiB | with_reducible apply z_isiI | with_reducible apply z_isiS | with_reducible apply z_isiT | with_reducible apply z_isiL | with_reducible apply z_isiLoc | with_reducible apply z_isiW | with_reducible apply z_methLT | with_reducible apply z_methLTt | with_reducible apply z_methLTl | with_reducible apply z_gTup | with_reducible apply z_gWtup | with_reducible apply z_gnn | with_reducible apply z_gDrop | with_reducible apply z_add | with_reducible apply z_sub | with_reducible apply z_neg | with_reducible apply z_lt | with_reducible apply z_le | with_reducible apply z_gt | with_reducible apply z_ge | with_reducible apply z_eq | with_reducible apply z_ne | with_reducible apply z_eqB | with_reducible apply z_neB | with_reducible apply z_is | with_reducible apply z_isNot | with_reducible apply z_lenT | with_reducible apply z_lenL | with_reducible apply z_int | with_reducible apply z_tupT | with_reducible apply z_tupL | with_reducible apply z_listT | with_reducible apply z_listL | with_reducible apply z_wSeq | with_reducible apply z_wT | with_reducible apply z_wL | with_reducible apply z_wRng1 | with_reducible apply z_wRng2 | with_reducible apply z_wEnum | with_reducible apply z_dFld | with_reducible apply z_cut00 | with_reducible apply z_cut01 | with_reducible apply z_cut10 | with_reducible apply z_cut11 | with_reducible apply z_asI | with_reducible apply z_cutT | with_reducible apply z_cutL | with_reducible apply z_nT | with_reducible apply z_nF | with_reducible apply z_max2 | with_reducible apply z_min2 | with_reducible apply z_bits | with_reducible apply z_raise | with_reducible apply z_try | with_reducible apply z_revL | with_reducible refine z_var (by with_unfolding_all rfl) ?_ | with_reducible refine z_gName (by dsimp only [setE] <;> with_unfolding_all rfl) ?_ | with_reducible refine z_gnc (by dsimp only [setE] <;> with_unfolding_all rfl) ?_ | with_reducible refine z_lc (by dsimp only [wipeE, setE] <;> with_unfolding_all rfl) ?_ | with_reducible refine x_len0 (by with_unfolding_all rfl) ?_ | with_reducible refine z_ixT (by with_unfolding_all rfl) ?_ | with_reducible refine z_ixL (by with_unfolding_all rfl) ?_ | with_reducible refine z_walkO (by with_unfolding_all rfl) ?_ | with_reducible refine z_walkOE (by with_unfolding_all rfl) ?_ | with_reducible refine z_app (by with_unfolding_all rfl) ?_ | with_reducible refine z_set (by with_unfolding_all rfl) ?_ | with_reducible refine z_pop1 (by with_unfolding_all rfl) ?_ | with_reducible refine z_mv (by with_unfolding_all rfl) ?_ | with_reducible refine z_popT (by with_unfolding_all rfl) ?_ | with_reducible refine z_del (by with_unfolding_all rfl) ?_ | with_reducible refine z_listR (by omega) ?_ | with_reducible refine z_fld (by with_unfolding_all rfl) ?_ | with_reducible refine z_mod (by omega) ?_ | with_reducible refine z_div64 (by omega) ?_ | with_reducible refine z_mul64 (by omega) ?_ | with_reducible refine z_powL (by decide) (by decide) (by decide) ?_ | with_reducible refine z_shlL (by decide) (by decide) (by decide) ?_ | with_reducible refine z_rng (by omega) ?_ | with_reducible refine z_rng2 (by omega) ?_ | with_reducible refine x_iteT ?_ | with_reducible refine x_iteF ?_ | with_reducible refine z_ifT (by with_unfolding_all rfl) ?_ | with_reducible refine z_ifF (by with_unfolding_all rfl) ?_ | with_reducible refine z_iteP (by omega) ?_ | with_reducible refine z_iteM (by omega) ?_ | with_reducible refine z_iteNP (by omega) ?_ | with_reducible refine z_iteNM (by omega) ?_ | with_reducible refine z_eqS (by decide +kernel) (by decide +kernel) ?_ | with_reducible refine z_neS (by decide +kernel) (by decide +kernel) ?_ | with_reducible refine z_ifT (by decide +kernel) ?_ | with_reducible refine z_ifF (by decide +kernel) ?_)))
local macro_rules | `(tactic| get_elem_tactic_trivial) => `(tactic| (repeat (first | with_reducible apply z_asg | with_reducible apply z_ret | with_reducible apply z_retN | with_reducible apply z_drop | with_reducible apply z_next | with_reducible apply z_break | with_reducible apply z_cont | with_reducible apply z_if | with_reducible apply z_par | with_reducible apply z_walk | with_reducible apply z_c | with_reducible apply z_d1 | with_reducible apply z_d2 | with_reducible apply z_nil | with_reducible apply z_cons | with_reducible apply z_args | with_reducible apply z_call | with_reducible apply z_test | with_reducible apply z_asB | with_reducible apply z_andT | with_reducible apply z_orT | with_reducible apply z_notT | with_reducible apply z_andV | with_reducible apply z_orV | with_reducible apply z_notV | with_reducible apply z_ifE | with_reducible apply z_chain | with_reducible apply z_tup | with_reducible apply z_lst | with_reducible apply z_yes | with_reducible apply z_isi | with_reducible apply z_isiN | with_reducible apply z_isiB | with_reducible apply z_isiI | with_reducible apply z_isiS | with_reducible apply z_isiT | with_reducible apply z_isiL | with_reducible apply z_isiLoc | with_reducible apply z_isiW | with_reducible apply z_methLT | with_reducible apply z_methLTt | with_reducible apply z_methLTl | with_reducible apply z_gTup | with_reducible apply z_gWtup | with_reducible apply z_gnn | with_reducible apply z_gDrop | with_reducible apply z_add | with_reducible apply z_sub | with_reducible apply z_neg | with_reducible apply z_lt | with_reducible apply z_le | with_reducible apply z_gt | with_reducible apply z_ge | with_reducible apply z_eq | with_reducible apply z_ne | with_reducible apply z_eqB | with_reducible apply z_neB | with_reducible apply z_is | with_reducible apply z_isNot | with_reducible apply z_lenT | with_reducible apply z_lenL | with_reducible apply z_int | with_reducible apply z_tupT | with_reducible apply z_tupL | with_reducible apply z_listT | with_reducible apply z_listL | with_reducible apply z_wSeq | with_reducible apply z_wT | with_reducible apply z_wL | with_reducible apply z_wRng1 | with_reducible apply z_wRng2 | with_reducible apply z_wEnum | with_reducible apply z_dFld | with_reducible apply z_cut00 | with_reducible apply z_cut01 | with_reducible apply z_cut10 | with_reducible apply z_cut11 | with_reducible apply z_asI | with_reducible apply z_cutT | with_reducible apply z_cutL | with_reducible apply z_nT | with_reducible apply z_nF | with_reducible apply z_max2 | with_reducible apply z_min2 | with_reducible apply z_bits | with_reducible apply z_raise | with_reducible apply z_try | with_reducible apply z_revL | with_reducible refine z_var (by with_unfolding_all rfl) ?_ | with_reducible refine z_gName (by dsimp only [setE] <;> with_unfolding_all rfl) ?_ | with_reducible refine z_gnc (by dsimp only [setE] <;> with_unfolding_all rfl) ?_ | with_reducible refine z_lc (by dsimp only [wipeE, setE] <;> with_unfolding_all rfl) ?_ | with_reducible refine x_len0 (by with_unfolding_all rfl) ?_ | with_reducible refine z_ixT (by with_unfolding_all rfl) ?_ | with_reducible refine z_ixL (by with_unfolding_all rfl) ?_ | with_reducible refine z_walkO (by with_unfolding_all rfl) ?_ | with_reducible refine z_walkOE (by with_unfolding_all rfl) ?_ | with_reducible refine z_app (by with_unfolding_all rfl) ?_ | with_reducible refine z_set (by with_unfolding_all rfl) ?_ | with_reducible refine z_pop1 (by with_unfolding_all rfl) ?_ | with_reducible refine z_mv (by with_unfolding_all rfl) ?_ | with_reducible refine z_popT (by with_unfolding_all rfl) ?_ | with_reducible refine z_del (by with_unfolding_all rfl) ?_ | with_reducible refine z_listR (by omega) ?_ | with_reducible refine z_fld (by with_unfolding_all rfl) ?_ | with_reducible refine z_mod (by omega) ?_ | with_reducible refine z_div64 (by omega) ?_ | with_reducible refine z_mul64 (by omega) ?_ | with_reducible refine z_powL (by decide) (by decide) (by decide) ?_ | with_reducible refine z_shlL (by decide) (by decide) (by decide) ?_ | with_reducible refine z_rng (by omega) ?_ | with_reducible refine z_rng2 (by omega) ?_ | with_reducible refine x_iteT ?_ | with_reducible refine x_iteF ?_ | with_reducible refine z_ifT (by with_unfolding_all rfl) ?_ | with_reducible refine z_ifF (by with_unfolding_all rfl) ?_ | with_reducible refine z_iteP (by omega) ?_ | with_reducible refine z_iteM (by omega) ?_ | with_reducible refine z_iteNP (by omega) ?_ | with_reducible refine z_iteNM (by omega) ?_ | with_reducible refine z_eqS (by decide +kernel) (by decide +kernel) ?_ | with_reducible refine z_neS (by decide +kernel) (by decide +kernel) ?_ | with_reducible refine z_ifT (by decide +kernel) ?_ | with_reducible refine z_ifF (by decide +kernel) ?_)))

theorem perm_range {ps : List Int} {n : Nat} (h : ps.Perm (irange 0 n)) : ps.length = n ∧ (∀ p ∈ ps, 0 ≤ p ∧ p < n) ∧ ∀ j, j < n → j ∈ ps.map Int.toNat := by
  refine ⟨by rw [h.length_eq, len_irange], fun p hp => ?_, fun j hj => ?_⟩
  · have := mem_irange (h.mem_iff.mp hp); omega
  · refine List.mem_map.mpr ⟨(j : Int), h.mem_iff.mpr (List.mem_map.mpr ⟨j, by simpa using hj, by omega⟩), by omega⟩
theorem prs_fst {ps die : List Int} (h : ps.length = die.length) : (prs ps die).map (·.1) = ps.map Int.toNat := by
  unfold prs
  rw [List.map_fst_zip (by simp [h])]
theorem sum_turn (die : List Int) (many : Int) : (turnI die many).sum = die.sum := by
  unfold turnI
  rw [List.sum_append, Int.add_comm, ← List.sum_append, List.take_append_drop]
theorem turn_full (die : List Int) (h : 1 ≤ die.length) : turnI die (die.length : Nat) = die := by
  unfold turnI
  rw [Int.emod_self]
  simp
theorem t_total {ns : List Int} {Q : VQ} {E : VX} (q : Q (.int ns.sum)) : w_die_total [.tup (ns.map D.int)] Q E := by
  refine vb_mk rfl ?_
  unfold v_die_total
  show tRet _ _ [some (.tup (ns.map D.int))]
  decreasing_trivial_pre_omega
  exact z_sumT q
theorem sm_put {r : List (Nat × D)} {b : List D} (hr : ∀ x ∈ r, Sm 0 1 x.2) (hb : ∀ x ∈ b, Sm 0 1 x) : ∀ x ∈ putAll r b, Sm 0 1 x := by
  induction r generalizing b with
  | nil => exact hb
  | cons x r ih =>
    obtain ⟨p, v⟩ := x
    refine ih (fun x hx => hr x (List.mem_cons_of_mem _ hx)) fun x hx => ?_
    rcases List.mem_or_eq_of_mem_set hx with z | z
    · exact hb x z
    · rw [z]; exact hr (p, v) (List.mem_cons_self ..)
theorem t_asked {die : List Int} {Q : VQ} {E : VX} (hd : DieOk die) (q : Q (.bl true)) : w__law_asked [.non, .tup (die.map D.int)] Q E := by
  refine vb_mk rfl ?_
  unfold v__law_asked
  show tSeq _ _ _ [some .non, some (.tup (die.map D.int)), none, none, none, none, none, none]
  obtain ⟨hd1, hd2, hd3, _⟩ := hd
  have hl : (die.map D.int).length = die.length := List.length_map ..
  obtain ⟨d0, ds, ed⟩ : ∃ d0 ds, die = d0 :: ds := by
    cases die with
    | nil => simp at hd1
    | cons a r => exact ⟨a, r, rfl⟩
  have hdl : ds.length < 1000 := by rw [ed, List.length_cons] at hd2; omega
  decreasing_trivial_pre_omega
  refine z_spend (by decide) fun v1 _ _ => ?_
  decreasing_trivial_pre_omega
  refine z_spend (by decide) fun v2 _ _ => ?_
  decreasing_trivial_pre_omega
  refine z_one rfl (by simp) (by simp only [List.length_cons, List.length_nil]; decide) fun d hd => ?_
  obtain ⟨many, rfl⟩ : ∃ many : Int, d = .int many := by
    simp only [List.mem_cons, List.not_mem_nil, or_false] at hd
    rcases hd with rfl | rfl | rfl | rfl | rfl | rfl <;> exact ⟨_, rfl⟩
  clear hd
  decreasing_trivial_pre_omega
  rw [toNat_len, hl]
  refine z_lcR (fun i => ((turnI die many).map D.int)[i.toNat]?.getD .non) (by unfold LINE; omega) (fun i i0 i1 R h => ?_) ?_
  · decreasing_trivial_pre_omega
    rw [hl]
    refine z_ixT (turn_at (by omega) i0 (by omega)) ?_
    exact h
  · rw [turn_range (by omega)]
    decreasing_trivial_pre_omega
    refine t_turned (by omega) (by omega) ?_
    decreasing_trivial_pre_omega
    refine z_sm (sm_ints (d := 0) (m := 10) (by rw [len_turn]; omega)) (by decide) (by decide) ?_
    decreasing_trivial_pre_omega
    rw [hl]
    refine t_turned (by omega) (by omega) ?_
    rw [turn_full die (by omega)]
    decreasing_trivial_pre_omega
    subst ed
    refine t_form hdl ?_
    decreasing_trivial_pre_omega
    refine t_form hdl ?_
    decreasing_trivial_pre_omega
    refine z_sm sm_form (by decide) (by decide) ?_
    decreasing_trivial_pre_omega
    rw [hl, rangeL_eq, Int.toNat_natCast]
    generalize hdie : d0 :: ds = die at *
    refine popW_perm (all := irange 0 die.length) (by rw [len_irange]; omega) (fun zs y R z0 z1 hR => ?_) (fun ps hp => ?_) _ (irange 0 die.length) [] (by rw [len_irange, hl]) (by simp)
    · have hz : (zs.map D.int).length = zs.length := List.length_map ..
      decreasing_trivial_pre_omega
      refine z_spend (by omega) fun k k0 k1 => ?_
      exact hR k k0 (by omega)
    · obtain ⟨p1, p2, p3⟩ := perm_range hp
      decreasing_trivial_pre_omega
      refine z_mulL ⟨by omega, by omega, ?_⟩ ?_
      · rw [hl, Int.toNat_natCast]
        show 1 * die.length ≤ 16777216
        omega
      decreasing_trivial_pre_omega
      rw [toNat_len, hl]
      have rl : repL [D.int 0] (((die.map D.int).length : Nat) : Int) = List.replicate die.length (.int 0) := by
        unfold repL
        rw [toNat_len, hl]
        simp
      rw [hl] at rl
      rw [rl]
      refine z_forR (fun k σ => ∃ s7, σ = [some .non, some (.tup (die.map D.int)), some (.int many), some (.tup ((turnI die many).map D.int)), some (.rol ([].map D.int)), some (.tup (ps.map D.int)), some (.rol (putAll ((prs ps die).take k) (List.replicate die.length (.int 0)))), s7]) ⟨_, rfl⟩ (fun k σ N hk hI hN => ?_) fun σ hI => ?_
      · obtain ⟨s7, rfl⟩ := hI
        have hk2 : k < ps.length := by omega
        have e1 := List.getElem?_eq_getElem hk
        have e2 := List.getElem?_eq_getElem hk2
        have hpm := p2 _ (List.getElem_mem hk2)
        rw [Int.zero_add]
        decreasing_trivial_pre_omega
        refine z_ixT (at_int e1) ?_
        decreasing_trivial_pre_omega
        refine z_ixT (at_int e2) ?_
        refine z_asI (z_ixn hpm.1 (by rw [putAll_len, List.length_replicate]; exact hpm.2) ?_)
        decreasing_trivial_pre_omega
        have e : putAll ((prs ps die).take (k + 1)) (List.replicate die.length (.int 0)) = (putAll ((prs ps die).take k) (List.replicate die.length (.int 0))).set ps[k].toNat (.int die[k]) := by
          rw [prs_take e2 e1, putAll_app]; rfl
        exact hN _ ⟨_, by rw [e]⟩
      · obtain ⟨s7, rfl⟩ := hI
        rw [List.take_of_length_le (by unfold prs; simp; omega)]
        rw [putAll_eq (c := die.map D.int) (by simp) (fun j hj => by rw [prs_fst p1]; exact p3 j (by simpa using hj))]
        decreasing_trivial_pre_omega
        refine t_mixed p1 (by omega) p2 ?_
        decreasing_trivial_pre_omega
        refine t_total ?_
        rw [sum_turn]
        decreasing_trivial_pre_omega
        refine z_sumT ?_
        decreasing_trivial_pre_omega
        refine z_sm (d := 3) (n := 100) (sm_tup (d := 2) (n := 20) (fun x hx => ?_) (by simp)) (by decide) (by decide) q
        simp only [List.mem_cons, List.not_mem_nil, or_false] at hx
        rcases hx with rfl | rfl
        · refine sm_tup (d := 1) (n := 1) (fun x hx => ?_) (by rw [putAll_len, hl]; omega)
          refine sm_le (sm_put (fun x hx => ?_) (fun x hx => ?_) x hx) (by decide) (by decide)
          · obtain ⟨n, hn, e⟩ := List.mem_map.mp (List.of_mem_zip (show (x.1, x.2) ∈ (ps.map Int.toNat).zip (die.map D.int) from hx)).2
            rw [← e]; exact sm_int (by decide) _
          · obtain ⟨n, hn, rfl⟩ := List.mem_map.mp hx
            exact sm_int (by decide) _
        · exact sm_int (by decide) _
/-! ### whole dice times a number -/
theorem gcdL_mul {t : Nat} : ∀ (ns : List Int) (g : Nat), (∀ n ∈ ns, 0 ≤ n) → gcdL (ns.map fun n => n * (t : Int)) (g * t) = gcdL ns g * t
  | [], g, _ => rfl
  | n :: ns, g, h => by
    obtain ⟨m, rfl⟩ := Int.eq_ofNat_of_zero_le (h n (List.mem_cons_self ..))
    have e : ((m : Int) * (t : Int)).toNat = m * t := by
      rw [← Int.natCast_mul, Int.toNat_natCast]
    rw [List.map_cons, gcdL, gcdL, e, Nat.gcd_mul_right]
    exact gcdL_mul ns _ fun n hn => h n (List.mem_cons_of_mem _ hn)
theorem low_mul {die : List Int} {t : Nat} (ht : 0 < t) (h0 : ∀ n ∈ die, 0 ≤ n) (h1 : gcdL die 0 = 1) : lowI (die.map fun n => n * (t : Int)) = die := by
  have e := gcdL_mul (t := t) die 0 h0
  rw [Nat.zero_mul, h1, Nat.one_mul] at e
  unfold lowI
  rw [e, List.map_map]
  refine (List.map_congr_left fun n hn => ?_).trans (List.map_id _)
  show n * (t : Int) / (t : Int) = n
  exact Int.mul_ediv_cancel _ (by omega)
theorem due_die {die : List Int} (hd : DieOk die) : dueW die = .tup [.str "told", .tup (die.map D.int)] := by
  obtain ⟨h1, h2, h3, x, y, h4⟩ := hd
  unfold dueW
  rw [fi_none fun j y hj hy => by
    obtain ⟨n, hn, rfl⟩ := List.mem_map.mp (List.mem_of_getElem? hy)
    have := h3 n hn
    simp [bigP]; omega]
  rw [if_neg (by have := dcnt_two h4; omega)]
theorem law_true (ns : List Int) (hn : ns.length ≤ 63) : p_law [.rol (ns.map D.int)] (fun _ => none) (fun d _ => d = .bl true) (fun _ _ => False) := by
  refine law_of ns hn ?_
  unfold v_law
  show tSeq _ _ _ [none, some .non, none, none, none, none, none, none]
  have l32 : lowI [30, 20] = [3, 2] := by decide +kernel
  have t212 : turnI [1, 2, 2] 2 = [2, 1, 2] := by decide +kernel
  decreasing_trivial_pre_omega
  refine t_lowest (ns := [30, 20]) ⟨by decide, by decide, by decide⟩ (fun _ _ => ?_) (fun k hk => by rw [l32] at hk; revert hk; decide +revert) (fun _ h => by rw [l32] at h; revert h; decide)
  rw [l32]
  decreasing_trivial_pre_omega
  refine t_turned (die := [1, 2, 2]) (by decide) (by decide) ?_
  rw [t212]
  decreasing_trivial_pre_omega
  refine t_mixed (die := [1, 2, 2]) (ps := [2, 0, 1]) rfl (by decide) (by decide) ?_
  decreasing_trivial_pre_omega
  refine z_same (x := .tup [.tup [.int 3, .int 2], .tup [.int 2, .int 1, .int 2], .tup [.int 2, .int 2, .int 1]]) (by decide +kernel) (by decide +kernel) (by decide +kernel) ?_
  decreasing_trivial_pre_omega
  refine z_forR (fun k σ => ∃ s2 s3 s4 s5 s6 s7 : Option D, σ = [none, some .non, s2, s3, s4, s5, s6, s7]) (by (repeat (first | rfl | apply Exists.intro))) (fun k σ N hk hI hN => ?_) fun σ hI => ?_
  · obtain ⟨s2, s3, s4, s5, s6, s7, rfl⟩ := hI
    decreasing_trivial_pre_omega
    refine t_die fun die hd hg => ?_
    decreasing_trivial_pre_omega
    refine t_asked hd ?_
    decreasing_trivial_pre_omega
    have hdl : die.length ≤ 5 := hd.2.1
    refine z_forR (fun k σ => ∃ s2 s4 s5 s6 s7 : Option D, σ = [none, some .non, s2, some (.tup (die.map D.int)), s4, s5, s6, s7]) (by (repeat (first | rfl | apply Exists.intro))) (fun k σ N2 hk hI hN2 => ?_) fun σ hI => ?_
    · obtain ⟨s2, s4, s5, s6, s7, rfl⟩ := hI
      decreasing_trivial_pre_omega
      refine t_weights hd fun ws hw => ?_
      decreasing_trivial_pre_omega
      refine t_told hw ?_
      decreasing_trivial_pre_omega
      refine t_due hw ?_
      decreasing_trivial_pre_omega
      refine z_sm (sm_dueW (by rw [len_lowI]; exact hw.2.1)) (by decide) (by decide) ?_
      decreasing_trivial_pre_omega
      exact hN2 _ (by (repeat (first | rfl | apply Exists.intro)))
    · obtain ⟨s2, s4, s5, s6, s7, rfl⟩ := hI
      decreasing_trivial_pre_omega
      refine z_spend (by decide) fun t t0 t1 => ?_
      decreasing_trivial_pre_omega
      obtain ⟨t, rfl⟩ := Int.eq_ofNat_of_zero_le t0
      have e1 : (1 : Int) + (t : Int) = ((1 + t : Nat) : Int) := by push_cast; rfl
      rw [e1]
      have ht : 1 + t ≤ 100 := by omega
      refine z_lcII (fun n => n * ((1 + t : Nat) : Int)) (by unfold LINE; omega) (fun n hm R h => ?_) ?_
      · have := hd.2.2.1 n hm
        decreasing_trivial_pre_omega
        exact h
      · have wo : WOk (die.map fun n => n * ((1 + t : Nat) : Int)) := ⟨by rw [List.length_map]; exact hd.1, by rw [List.length_map]; exact hd.2.1, fun n hn => by
          obtain ⟨k, hk, rfl⟩ := List.mem_map.mp hn
          have hk := hd.2.2.1 k hk
          have h1 : 1 * 1 ≤ k * ((1 + t : Nat) : Int) := Int.mul_le_mul hk.1 (by omega) (by decide) (by omega)
          have h2 : k * ((1 + t : Nat) : Int) ≤ 5 * 100 := Int.mul_le_mul hk.2 (by omega) (by omega) (by decide)
          omega⟩
        decreasing_trivial_pre_omega
        refine t_told wo ?_
        rw [low_mul (by omega) (fun n hn => by have := hd.2.2.1 n hn; omega) hg]
        have sd := sm_dueW (ns := die) hdl
        rw [due_die hd] at sd ⊢
        decreasing_trivial_pre_omega
        refine z_sm sd (by decide) (by decide) ?_
        decreasing_trivial_pre_omega
        have e7 : ((1 + t : Nat) : Int) * 7 + 7 * 5 = 7 * ((t + 6 : Nat) : Int) := by push_cast; omega
        rw [e7]
        have g7 : gcdL [7, 7 * ((t + 6 : Nat) : Int)] 0 = 7 := by
          have : (7 * ((t + 6 : Nat) : Int)).toNat = 7 * (t + 6) := by omega
          simp only [gcdL, this]
          show Nat.gcd (Nat.gcd 0 7) (7 * (t + 6)) = 7
          rw [Nat.gcd_zero_left]
          exact Nat.gcd_mul_right_right 7 (t + 6) |> fun _ => Nat.gcd_eq_left ⟨t + 6, rfl⟩
        have l7 : lowI [7, 7 * ((t + 6 : Nat) : Int)] = [1, ((t + 6 : Nat) : Int)] := by
          unfold lowI
          rw [g7]
          have : 7 * ((t + 6 : Nat) : Int) / ((7 : Nat) : Int) = ((t + 6 : Nat) : Int) := by omega
          simp only [List.map_cons, List.map_nil, this]
          rfl
        refine t_told (ns := [7, 7 * ((t + 6 : Nat) : Int)]) ⟨by simp, by simp, fun n hn => by
          simp only [List.mem_cons, List.not_mem_nil, or_false] at hn
          rcases hn with rfl | rfl <;> omega⟩ ?_
        rw [l7]
        have ed : dueW [1, ((t + 6 : Nat) : Int)] = .tup [.str "bad", .int (1 : Nat), .str "weight"] := by
          unfold dueW
          rw [fi_some (k := 1) (x := .int ((t + 6 : Nat) : Int)) rfl (by simp [bigP]; omega) (fun j y hj hy => by
            have : j = 0 := by omega
            subst this
            have : y = .int 1 := (Option.some.inj hy).symm
            subst this; decide)]
        rw [ed]
        decreasing_trivial_pre_omega
        exact hN _ (by (repeat (first | rfl | apply Exists.intro)))
  · obtain ⟨s2, s3, s4, s5, s6, s7, rfl⟩ := hI
    decreasing_trivial_pre_omega
    rfl
end L_throwntrue_k01_die_edits
open PySem PySem.W PyProof.Rows in
set_option maxRecDepth 100000 in
set_option maxHeartbeats 0 in
theorem PySem.Challenge.cw_throwntrue_k01_die_edits_holds : PySem.Challenge.rw_throwntrue_k01_die_edits.Holds := by
  w_on; o_law; k_head; (case hw => w_witness2)
  k_fill
  refine PD.walk (k := 6) (l := PySem.Challenge.rw_throwntrue_k01_die_edits) rfl rfl ⟨rfl, by decide, by decide⟩ (fun w h Y => PySem.W.kIn_of Y) ?F
  case F =>
    intro w mg fa h KX G hmg
    refine' L_throwntrue_k01_die_edits.all_mk KX G hmg L_throwntrue_k01_die_edits.law_true ?a_is_whole ?l_is_whole ?c_is_whole ?k_is_whole ?a_is_between ?l_is_between ?c_is_between ?k_is_between ?a_common_factor ?l_common_factor ?c_common_factor ?k_common_factor ?a_check_die ?l_check_die ?c_check_die ?k_check_die ?a_lowest_die ?l_lowest_die ?c_lowest_die ?k_lowest_die ?a_turned_die ?l_turned_die ?c_turned_die ?k_turned_die ?a_mixed_die ?l_mixed_die ?c_mixed_die ?k_mixed_die ?a_die_total ?l_die_total ?c_die_total ?k_die_total ?a_light_faces ?l_light_faces ?c_light_faces ?k_light_faces ?a_die_form ?l_die_form ?c_die_form ?k_die_form ?a__law_purse ?l__law_purse ?c__law_purse ?k__law_purse ?a__law_spend ?l__law_spend ?c__law_spend ?k__law_spend ?a__law_one ?l__law_one ?c__law_one ?k__law_one ?a__law_same ?l__law_same ?c__law_same ?k__law_same ?a__law_common ?l__law_common ?c__law_common ?k__law_common ?a__law_die ?l__law_die ?c__law_die ?k__law_die ?a__law_due ?l__law_due ?c__law_due ?k__law_due ?a__law_told ?l__law_told ?c__law_told ?k__law_told ?a__law_weights ?l__law_weights ?c__law_weights ?k__law_weights ?a__law_asked ?l__law_asked ?c__law_asked ?k__law_asked ?a_law ?l_law ?c_law ?k_law ?z_abs ?z_bool ?z_enumerate ?z_int ?z_isinstance ?z_len ?z_list ?z_range ?z_set ?z_str ?z_sum ?z_tuple ?y_gcd ?g_LEAST_FACES ?g_MOST_FACES ?g_MOST_WEIGHT ?aX_ThrowError ?eX_ThrowError ?tX_ThrowError ?hX_ThrowError ?oX_ThrowError ?gaX_ThrowError ?ggX_ThrowError ?nX_ThrowError_at ?nX_ThrowError_word ?aX_BadDie ?eX_BadDie ?tX_BadDie ?hX_BadDie ?oX_BadDie ?gaX_BadDie ?ggX_BadDie ?nX_BadDie_at ?nX_BadDie_word ?xX_BadDie ?rX_BadDie ?sX_BadDie ?kX_BadDie ?iX_BadDie ?fX_BadDie ?lX_BadDie ?dX_BadDie ?jX_BadDie ?vX_BadDie ?pX_BadDie ?ceX_BadDie ?suX_BadDie ?owX_BadDie ?veX_BadDie ?bX_BadDie_ThrowError ?bX_BadDie_BadDie ?opq ?nosup ?topno
    (case a_is_whole => k_is)
    (case l_is_whole => k_is)
    (case c_is_whole => k_is)
    (case k_is_whole => k_is)
    (case a_is_between => k_is)
    (case l_is_between => k_is)
    (case c_is_between => k_is)
    (case k_is_between => k_is)
    (case a_common_factor => k_is)
    (case l_common_factor => k_is)
    (case c_common_factor => k_is)
    (case k_common_factor => k_is)
    (case a_check_die => k_is)
    (case l_check_die => k_is)
    (case c_check_die => k_is)
    (case k_check_die => k_is)
    (case a_lowest_die => k_is)
    (case l_lowest_die => k_is)
    (case c_lowest_die => k_is)
    (case k_lowest_die => k_is)
    (case a_turned_die => k_is)
    (case l_turned_die => k_is)
    (case c_turned_die => k_is)
    (case k_turned_die => k_is)
    (case a_mixed_die => k_is)
    (case l_mixed_die => k_is)
    (case c_mixed_die => k_is)
    (case k_mixed_die => k_is)
    (case a_die_total => k_is)
    (case l_die_total => k_is)
    (case c_die_total => k_is)
    (case k_die_total => k_is)
    (case a_light_faces => k_is)
    (case l_light_faces => k_is)
    (case c_light_faces => k_is)
    (case k_light_faces => k_is)
    (case a_die_form => k_is)
    (case l_die_form => k_is)
    (case c_die_form => k_is)
    (case k_die_form => k_is)
    (case a__law_purse => k_is)
    (case l__law_purse => k_is)
    (case c__law_purse => k_is)
    (case k__law_purse => k_is)
    (case a__law_spend => k_is)
    (case l__law_spend => k_is)
    (case c__law_spend => k_is)
    (case k__law_spend => k_is)
    (case a__law_one => k_is)
    (case l__law_one => k_is)
    (case c__law_one => k_is)
    (case k__law_one => k_is)
    (case a__law_same => k_is)
    (case l__law_same => k_is)
    (case c__law_same => k_is)
    (case k__law_same => k_is)
    (case a__law_common => k_is)
    (case l__law_common => k_is)
    (case c__law_common => k_is)
    (case k__law_common => k_is)
    (case a__law_die => k_is)
    (case l__law_die => k_is)
    (case c__law_die => k_is)
    (case k__law_die => k_is)
    (case a__law_due => k_is)
    (case l__law_due => k_is)
    (case c__law_due => k_is)
    (case k__law_due => k_is)
    (case a__law_told => k_is)
    (case l__law_told => k_is)
    (case c__law_told => k_is)
    (case k__law_told => k_is)
    (case a__law_weights => k_is)
    (case l__law_weights => k_is)
    (case c__law_weights => k_is)
    (case k__law_weights => k_is)
    (case a__law_asked => k_is)
    (case l__law_asked => k_is)
    (case c__law_asked => k_is)
    (case k__law_asked => k_is)
    (case a_law => k_is)
    (case l_law => k_is)
    (case c_law => k_is)
    (case k_law => k_is)
    (case z_abs => k_is)
    (case z_bool => k_is)
    (case z_enumerate => k_is)
    (case z_int => k_is)
    (case z_isinstance => k_is)
    (case z_len => k_is)
    (case z_list => k_is)
    (case z_range => k_is)
    (case z_set => k_is)
    (case z_str => k_is)
    (case z_sum => k_is)
    (case z_tuple => k_is)
    (case y_gcd => k_is)
    (case g_LEAST_FACES => k_is)
    (case g_MOST_FACES => k_is)
    (case g_MOST_WEIGHT => k_is)
    (case aX_ThrowError => k_is)
    (case eX_ThrowError => k_is)
    (case tX_ThrowError => k_is)
    (case hX_ThrowError => k_is)
    (case oX_ThrowError => k_is)
    (case gaX_ThrowError => k_is)
    (case ggX_ThrowError => k_is)
    (case nX_ThrowError_at => k_is)
    (case nX_ThrowError_word => k_is)
    (case aX_BadDie => k_is)
    (case eX_BadDie => k_is)
    (case tX_BadDie => k_is)
    (case hX_BadDie => k_is)
    (case oX_BadDie => k_is)
    (case gaX_BadDie => k_is)
    (case ggX_BadDie => k_is)
    (case nX_BadDie_at => k_is)
    (case nX_BadDie_word => k_is)
    (case xX_BadDie => k_is)
    (case rX_BadDie => decide +kernel)
    (case sX_BadDie => k_is)
    (case kX_BadDie => k_is)
    (case iX_BadDie => k_is)
    (case fX_BadDie => k_is)
    (case lX_BadDie => k_is)
    (case dX_BadDie => k_is)
    (case jX_BadDie => k_is)
    (case vX_BadDie => rfl)
    (case pX_BadDie => first | rfl | decide +kernel)
    (case ceX_BadDie => k_is)
    (case suX_BadDie => ks_is)
    (case owX_BadDie => k_is)
    (case veX_BadDie => k_is)
    (case bX_BadDie_ThrowError => k_is)
    (case bX_BadDie_BadDie => k_is)
    (case opq => k_is)
    (case nosup => k_is)
    (case topno => first | rfl | decide +kernel)
