import PyProof.Rows.All
import Wide.All
import OpenK.AllK
import Wide.FinOn
import HandS.ForMost
import HandS.ForExc
import HandS.Style
import HandS.Property
import HandS.Deep
import HandS.TupAny
import HandS.Dict
import HandS.Conv
import HandS.Text
import HandS.Strs
import HandS.IsInst
import HandS.Iter
import KE.GoesMore
import KE.GoesEnum
import HandS.Small
import HandS.Zip
import HandS.TryOnly
import HandS.SetFor
import KE.SortData
import PyProof.ReprRoads
import KE.KDictPairs
import KE.KDictZip
import HandS.Words
import HandS.Star
import HandS.OwnEq
import KE.KBits
import PySem.Challenge.RW_nowheretohide_k01_whole_parts_and_ways
set_option Elab.async false
set_option linter.all false
set_option maxRecDepth 100000
/-! Pu: programs over plain data. Values are trees; lists that are changed stand in slots of their own; a program is what it asks (a predicate transformer), no heap in sight. -/
namespace Pu
open PySem

abbrev Ky := Sum Int Str

/-- a value, as a tree -/
inductive D where
  | non
  | bl (b : Bool)
  | int (i : Int)
  | str (x : Str)
  | tup (xs : List D)
  | lst (xs : List D)
  | dic (ks : List Ky) (xs : List D)
  | ins (C : Nat) (fs : List Str) (xs : List D)
  | scr (ns : List Int)
  | fn (a : Nat)
  | ttp (xs : List D)
  | at (a : Nat) (d : D)
  deriving Inhabited

/-- what a slot holds: nothing that is known; a value that stays as it is; a list or dict of the def's own; one that the caller lent; a list of own lists -/
inductive Sl where
  | un
  | fz (d : D)
  | ow (d : D)
  | io (k : Nat) (d : D)
  | oo (ds : List (List D))
  deriving Inhabited

abbrev En := List Sl

@[simp] def Sl.dat : Sl → Option D
  | .fz d => some d
  | .ow d => some d
  | .io _ d => some d
  | .oo _ => none
  | .un => none

/-- what is wanted of an error: its class, its value, the slots -/
abbrev EX := Nat → D → En → Prop
abbrev noEX : EX := fun _ _ _ => False
abbrev WE := EX → En → (Sl → En → Prop) → Prop
abbrev WT := EX → En → (Bool → En → Prop) → Prop
/-- an operand that is only read: a value, or what stands in a slot by then -/
inductive Rr where
  | val (d : D)
  | at (i : Nat)
abbrev WR := EX → En → (Rr → En → Prop) → Prop
abbrev WRs := EX → En → (List Rr → En → Prop) → Prop
@[simp] def look (ρ : En) : Rr → Option D
  | .val d => some d
  | .at i => (ρ[i]?).bind Sl.dat
@[simp] def looks (ρ : En) : List Rr → Option (List D)
  | [] => some []
  | r :: rs => match look ρ r, looks ρ rs with
    | some d, some ds => some (d :: ds)
    | _, _ => none
structure EndD where
  nx : En → Prop
  rt : Sl → En → Prop
  bk : En → Prop := fun _ => False
  ct : En → Prop := fun _ => False
  ex : EX := fun _ _ _ => False
abbrev WS := EndD → En → Prop
/-- where a value goes -/
abbrev WG := Sl → En → (En → Prop) → Prop
/-- the items that a loop walks -/
abbrev WI := EX → En → (List D → En → Prop) → Prop

/-! ### expressions -/
@[simp] def wC (d : D) : WE := fun _ ρ Q => Q (.fz d) ρ
/-- a name whose value is kept somewhere: what stood there as one's own is so no more -/
@[simp] def wN (i : Nat) : WE := fun _ ρ Q => match ρ[i]? with
  | some (.fz d) => Q (.fz d) ρ
  | some (.ow d) => Q (.fz d) (ρ.set i (.fz d))
  | some (.oo ds) => Q (.fz (.lst (ds.map .lst))) (ρ.set i (.fz (.lst (ds.map .lst))))
  | _ => False
@[simp] def rN (i : Nat) : WR := fun _ ρ Q => match ρ[i]? with
  | some (.fz _) => Q (.at i) ρ
  | some (.ow _) => Q (.at i) ρ
  | some (.io _ _) => Q (.at i) ρ
  | _ => False
/-- a value as data, whatever is own of it being own no more -/
@[simp] def Sl.fr (Q : D → Prop) : Sl → Prop
  | .fz d => Q d
  | .ow d => Q d
  | _ => False
@[simp] def rE (w : WE) : WR := fun E ρ Q => w E ρ fun s ρ' => s.fr fun d => Q (.val d) ρ'
@[simp] def with1 (o : Option D) (k : D → Prop) : Prop := match o with
  | some x => k x
  | none => False
@[simp] def with2 (o p : Option D) (k : D → D → Prop) : Prop := match o with
  | some x => (match p with
    | some y => k x y
    | none => False)
  | none => False
@[simp] def withN (o : Option (List D)) (k : List D → Prop) : Prop := match o with
  | some x => k x
  | none => False
abbrev K1 := D → (Sl → Prop) → Prop
abbrev K2 := D → D → (Sl → Prop) → Prop
abbrev KN := List D → (Sl → Prop) → Prop
@[simp] def wOp (k : K2) (a b : WR) : WE := fun E ρ Q => a E ρ fun r1 ρ1 => b E ρ1 fun r2 ρ2 => with2 (look ρ2 r1) (look ρ2 r2) fun x y => k x y fun s => Q s ρ2
@[simp] def wUn (k : K1) (a : WR) : WE := fun E ρ Q => a E ρ fun r1 ρ1 => with1 (look ρ1 r1) fun x => k x fun s => Q s ρ1
@[simp] def rsN : WRs := fun _ ρ Q => Q [] ρ
@[simp] def rsC (a : WR) (b : WRs) : WRs := fun E ρ Q => a E ρ fun r ρ1 => b E ρ1 fun rs ρ2 => Q (r :: rs) ρ2
@[simp] def wB (k : KN) (as : WRs) : WE := fun E ρ Q => as E ρ fun rs ρ1 => withN (looks ρ1 rs) fun ds => k ds fun s => Q s ρ1
/-- o.m(..) where nothing is changed -/
@[simp] def wM (k : D → KN) (o : WR) (as : WRs) : WE := fun E ρ Q => o E ρ fun r ρ1 => as E ρ1 fun rs ρ2 => with1 (look ρ2 r) fun x => withN (looks ρ2 rs) fun ds => k x ds fun s => Q s ρ2
/-- values that are kept, from the left -/
abbrev WVs := EX → En → (List D → En → Prop) → Prop
@[simp] def vsN : WVs := fun _ ρ Q => Q [] ρ
@[simp] def vsC (a : WE) (b : WVs) : WVs := fun E ρ Q => a E ρ fun s ρ1 => s.fr fun d => b E ρ1 fun ds ρ2 => Q (d :: ds) ρ2
@[simp] def wTup (a : WVs) : WE := fun E ρ Q => a E ρ fun ds ρ1 => ds.length ≤ 1000 ∧ Q (.fz (.tup ds)) ρ1
@[simp] def wLst (a : WVs) : WE := fun E ρ Q => a E ρ fun ds ρ1 => ds.length ≤ 1000 ∧ Q (.ow (.lst ds)) ρ1

/-! ### tests -/
@[simp] def tV (w : WE) : WT := fun E ρ Q => w E ρ fun s ρ' => match s with
  | .fz (.bl b) => Q b ρ'
  | _ => False
@[simp] def tAnd (a b : WT) : WT := fun E ρ Q => a E ρ fun c ρ1 => if c = true then b E ρ1 Q else Q false ρ1
@[simp] def tOr (a b : WT) : WT := fun E ρ Q => a E ρ fun c ρ1 => if c = true then Q true ρ1 else b E ρ1 Q
@[simp] def tNot (a : WT) : WT := fun E ρ Q => a E ρ fun c ρ1 => Q (!c) ρ1
/-- and, or, not as values (of bools) -/
@[simp] def wAnd (a b : WE) : WE := fun E ρ Q => a E ρ fun s ρ1 => match s with
  | .fz (.bl c) => if c = true then b E ρ1 Q else Q (.fz (.bl false)) ρ1
  | _ => False
@[simp] def wOr (a b : WE) : WE := fun E ρ Q => a E ρ fun s ρ1 => match s with
  | .fz (.bl c) => if c = true then Q (.fz (.bl true)) ρ1 else b E ρ1 Q
  | _ => False
@[simp] def wNot (a : WE) : WE := fun E ρ Q => a E ρ fun s ρ1 => match s with
  | .fz (.bl c) => Q (.fz (.bl (!c))) ρ1
  | _ => False
@[simp] def wIf (t : WT) (a b : WE) : WE := fun E ρ Q => t E ρ fun c ρ1 => if c = true then a E ρ1 Q else b E ρ1 Q

/-! ### statements -/
@[simp] def wPass : WS := fun K ρ => K.nx ρ
@[simp] def wSeq (a b : WS) : WS := fun K ρ => a { K with nx := b K } ρ
@[simp] def wSet (i : Nat) (w : WE) : WS := fun K ρ => w K.ex ρ fun s ρ1 => K.nx (ρ1.set i s)
@[simp] def wAsg (g : WG) (w : WE) : WS := fun K ρ => w K.ex ρ fun s ρ1 => g s ρ1 K.nx
@[simp] def wDrop (w : WE) : WS := fun K ρ => w K.ex ρ fun _ ρ1 => K.nx ρ1
@[simp] def wRet (w : WE) : WS := fun K ρ => w K.ex ρ fun s ρ1 => K.rt s ρ1
@[simp] def wRetN : WS := fun K ρ => K.rt (.fz .non) ρ
@[simp] def wIfS (t : WT) (a b : WS) : WS := fun K ρ => t K.ex ρ fun c ρ1 => if c = true then a K ρ1 else b K ρ1
@[simp] def wBrk : WS := fun K ρ => K.bk ρ
@[simp] def wCnt : WS := fun K ρ => K.ct ρ
@[simp] def wNever : WS := fun _ _ => False
@[simp] def gN (i : Nat) : WG := fun s ρ Q => Q (ρ.set i s)
/-- a tuple of targets: what is taken apart stays as it is -/
abbrev WGs := List D → En → (En → Prop) → Prop
@[simp] def gsN : WGs := fun ds ρ Q => match ds with
  | [] => Q ρ
  | _ :: _ => False
@[simp] def gsC (g : WG) (gs : WGs) : WGs := fun ds ρ Q => match ds with
  | [] => False
  | d :: r => g (.fz d) ρ fun ρ1 => gs r ρ1 Q
def gT (gs : WGs) : WG := fun s ρ Q => match s with
  | .fz (.tup ds) => gs ds ρ Q
  | _ => False
def wFor (wi : WI) (g : WG) (body : WS) : WS := fun K ρ => wi K.ex ρ fun items ρ1 => ∃ W : Nat → En → Prop, W 0 ρ1 ∧
  (∀ i x ρ, items[i]? = some x → W i ρ → g (.fz x) ρ fun ρ2 => body { K with nx := W (i + 1), ct := W (i + 1), bk := K.nx } ρ2) ∧ ∀ ρ, W items.length ρ → K.nx ρ
def wWhile (t : WT) (body : WS) : WS := fun K ρ => ∃ W : Nat → En → Prop, (∃ m, W m ρ) ∧ ∀ m ρ, W m ρ →
  t K.ex ρ fun b ρ1 => if b = true then body { K with nx := fun ρ' => ∃ m', m' < m ∧ W m' ρ', ct := fun ρ' => ∃ m', m' < m ∧ W m' ρ', bk := K.nx } ρ1 else K.nx ρ1
/-- values at hand, own or not, from the left -/
abbrev WHs := EX → En → (List Sl → En → Prop) → Prop
@[simp] def Sl.vl (Q : Prop) : Sl → Prop
  | .fz _ => Q
  | .ow _ => Q
  | _ => False
@[simp] def hsN : WHs := fun _ ρ Q => Q [] ρ
@[simp] def hsC (a : WE) (b : WHs) : WHs := fun E ρ Q => a E ρ fun s ρ1 => s.vl (b E ρ1 fun ss ρ2 => Q (s :: ss) ρ2)
/-- a, b = e, f: all values are there ahead of the stores -/
@[simp] def setAll (ρ : En) : List Nat → List Sl → En
  | i :: is, s :: ss => setAll (ρ.set i s) is ss
  | _, _ => ρ
@[simp] def wPar (is : List Nat) (w : WHs) : WS := fun K ρ => w K.ex ρ fun ss ρ1 => K.nx (setAll ρ1 is ss)

/-! ### comprehensions: vs the slots of its own names -/
@[simp] def wipeE (ρ : En) : List Nat → En
  | [] => ρ
  | v :: vs => (wipeE ρ vs).set v .un
/-- behind the block: its own names' slots as they were, where they were plain -/
@[simp] def Sl.keep : Sl → Sl
  | .fz d => .fz d
  | _ => .un
@[simp] def backE (ρ0 ρ : En) : List Nat → En
  | [] => ρ
  | v :: vs => (backE ρ0 ρ vs).set v ((ρ0[v]?).getD .un).keep
def wLc (wi : WI) (g : WG) (tt : WT) (te : WE) (vs : List Nat) : WE := fun E ρ Q => wi E ρ fun items ρ1 => ∃ W : Nat → List D → En → Prop, W 0 [] (wipeE ρ1 vs) ∧
  (∀ i x acc ρ, items[i]? = some x → W i acc ρ → g (.fz x) ρ fun ρ2 => tt noEX ρ2 fun b ρ3 =>
    if b = true then te noEX ρ3 fun s ρ4 => s.fr fun d => acc.length < sizeLine ∧ W (i + 1) (acc ++ [d]) (wipeE ρ4 vs) else W (i + 1) acc (wipeE ρ3 vs)) ∧
  ∀ acc ρ, W items.length acc ρ → Q (.ow (.lst acc)) (backE ρ1 ρ vs)
@[simp] def tYes : WT := fun _ ρ Q => Q true ρ

/-! ### what a loop walks -/
/-- the items of a list or tuple that stays -/
def iSeq (w : WE) : WI := fun E ρ Q => w E ρ fun s ρ1 => s.fr fun d => match d with
  | .lst ds => Q ds ρ1
  | .tup ds => Q ds ρ1
  | _ => False
def rangeD (a b : Int) : List D := (List.range (b - a).toNat).map fun (k : Nat) => D.int (a + (k : Int))
@[simp] def iRng1 (w : WR) : WI := fun E ρ Q => w E ρ fun r ρ1 => with1 (look ρ1 r) fun d => match d with
  | .int b => (-(2 ^ 62) ≤ b ∧ b < 2 ^ 62) ∧ Q (rangeD 0 b) ρ1
  | _ => False
@[simp] def iRng2 (u w : WR) : WI := fun E ρ Q => u E ρ fun r1 ρ1 => w E ρ1 fun r2 ρ2 => with2 (look ρ2 r1) (look ρ2 r2) fun x y => match x with
  | .int a => (match y with
    | .int b => (-(2 ^ 62) ≤ a ∧ a < 2 ^ 62 ∧ -(2 ^ 62) ≤ b ∧ b < 2 ^ 62) ∧ Q (rangeD a b) ρ2
    | _ => False)
  | _ => False
@[simp] def numbered (k : Nat) : List D → List D
  | [] => []
  | d :: ds => .tup [.int k, d] :: numbered (k + 1) ds
@[simp] def paired : List D → List D → List D
  | d :: ds, e :: es => .tup [d, e] :: paired ds es
  | _, _ => []

/-! ### a def's promise, and calls of it -/
inductive Md where
  | fz
  | io
/-- from the arguments: what is wanted of the value and of what the arguments hold then (of those lent); of an error -/
abbrev DSp := List D → (Sl → List D → Prop) → (Nat → D → List D → Prop) → Prop
/-- an argument of a call: a value, or a slot lent -/
inductive Ar where
  | v (d : D)
  | s (i : Nat)
abbrev WAs := EX → En → (List Ar → En → Prop) → Prop
@[simp] def asN : WAs := fun _ ρ Q => Q [] ρ
@[simp] def asV (w : WE) (r : WAs) : WAs := fun E ρ Q => w E ρ fun s ρ1 => s.fr fun d => r E ρ1 fun as ρ2 => Q (.v d :: as) ρ2
/-- what a lent slot holds -/
@[simp] def lent : Option Sl → Option D
  | some (.ow d) => some d
  | some (.io _ d) => some d
  | _ => none
@[simp] def asS (i : Nat) (r : WAs) : WAs := fun E ρ Q => with1 (lent ρ[i]?) fun _ => r E ρ fun as ρ1 => Q (.s i :: as) ρ1
@[simp] def lentBack (s : Option Sl) (d : D) : Sl := match s with
  | some (.ow _) => .ow d
  | some (.io k _) => .io k d
  | _ => .un
@[simp] def argsD (ρ : En) : List Ar → Option (List D)
  | [] => some []
  | .v d :: r => match argsD ρ r with
    | some ds => some (d :: ds)
    | none => none
  | .s i :: r => match lent ρ[i]? with
    | some d => (match argsD ρ r with
      | some ds => some (d :: ds)
      | none => none)
    | none => none
@[simp] def backD (ρ : En) : List Ar → List D → En
  | .s i :: r, d :: ds => backD (ρ.set i (lentBack ρ[i]? d)) r ds
  | .v _ :: r, _ :: ds => backD ρ r ds
  | _, _ => ρ
/-- the lent slots are unlike -/
def slotsOf : List Ar → List Nat
  | [] => []
  | .v _ :: r => slotsOf r
  | .s i :: r => i :: slotsOf r
def modesOf : List Ar → List Md
  | [] => []
  | .v _ :: r => .fz :: modesOf r
  | .s _ :: r => .io :: modesOf r
@[simp] def wCall (sp : DSp) (as : WAs) : WE := fun E ρ Q => as E ρ fun ars ρ1 => withN (argsD ρ1 ars) fun ds => sp ds (fun s outs => Q s (backD ρ1 ars outs)) fun C d outs => E C d (backD ρ1 ars outs)
/-- a def's slots at its start; k: the place of the first -/
@[simp] def startE (k : Nat) : List Md → List D → Nat → En
  | .fz :: ms, d :: ds, n + 1 => .fz d :: startE (k + 1) ms ds n
  | .io :: ms, d :: ds, n + 1 => .io k d :: startE (k + 1) ms ds n
  | _, _, n => List.replicate n .un
/-- what was lent, at the end: it is to stand where it stood -/
@[simp] def outsE (k : Nat) : List Md → En → Option (List D)
  | .fz :: ms, _ :: ρ => match outsE (k + 1) ms ρ with
    | some r => some (.non :: r)
    | none => none
  | .io :: ms, .io j d :: ρ => if j = k then (match outsE (k + 1) ms ρ with
    | some r => some (d :: r)
    | none => none) else none
  | .io :: _, _ :: _ => none
  | _ :: _, [] => none
  | [], _ => some []
/-- a def's body against its promise -/
def keeps (ms : List Md) (n : Nat) (sp : DSp) (w : WS) : Prop := ∀ ds Q E, ds.length = ms.length → sp ds Q E →
  w { nx := fun ρ => withN (outsE 0 ms ρ) fun outs => Q (.fz .non) outs, rt := fun s ρ => s.vl (withN (outsE 0 ms ρ) fun outs => Q s outs), ex := fun C d ρ => withN (outsE 0 ms ρ) fun outs => E C d outs } (startE 0 ms ds n)
end Pu

set_option Elab.async false
set_option linter.all false
set_option maxRecDepth 100000
/-! Pu, how data stands in the heap: Z, the part that stays; each own list at an address of its own. -/
namespace Pu
open PySem L2

/-! ### pairs -/
section
variable {α β : Type} {F G : α → β → Prop}
theorem pd_len : ∀ {l : List α} {r : List β}, Paired F l r → l.length = r.length
  | _, _, .nil => rfl
  | _, _, .cons _ t => congrArg (· + 1) (pd_len t)
theorem pd_split : ∀ {l1 l2 : List α} {r : List β}, Paired F (l1 ++ l2) r → ∃ r1 r2, r = r1 ++ r2 ∧ Paired F l1 r1 ∧ Paired F l2 r2
  | [], _, r, h => ⟨[], r, rfl, .nil, h⟩
  | _ :: _, _, _, .cons h t => by
    obtain ⟨r1, r2, e, h1, h2⟩ := pd_split t
    exact ⟨_ :: r1, r2, by rw [e]; rfl, .cons h h1, h2⟩
theorem pd_app : ∀ {l1 l2 : List α} {r1 r2 : List β}, Paired F l1 r1 → Paired F l2 r2 → Paired F (l1 ++ l2) (r1 ++ r2)
  | _, _, _, _, .nil, h => h
  | _, _, _, _, .cons h t, h2 => .cons h (pd_app t h2)
theorem pd_imp : ∀ {l : List α} {r : List β}, Paired F l r → (∀ a b, b ∈ r → F a b → G a b) → Paired G l r
  | _, _, .nil, _ => .nil
  | _, _, .cons h t, k => .cons (k _ _ (List.mem_cons_self ..) h) (pd_imp t fun a b m => k a b (List.mem_cons_of_mem _ m))
theorem pd_one {a : α} {r : List β} (h : Paired F [a] r) : ∃ b, r = [b] ∧ F a b := by
  cases h with
  | cons h t => cases t; exact ⟨_, rfl, h⟩
theorem pd_get : ∀ {l : List α} {r : List β} {i : Nat} {b : β}, Paired F l r → r[i]? = some b → ∃ a, l[i]? = some a ∧ F a b
  | _, _, _, _, .nil, e => by simp at e
  | _, _, 0, _, .cons h _, e => by simp at e; subst e; exact ⟨_, rfl, h⟩
  | _, _, i + 1, _, .cons _ t, e => by
    obtain ⟨a, h1, h2⟩ := pd_get (i := i) t (by simpa using e)
    exact ⟨a, by simpa using h1, h2⟩
theorem pd_getL : ∀ {l : List α} {r : List β} {i : Nat} {a : α}, Paired F l r → l[i]? = some a → ∃ b, r[i]? = some b ∧ F a b
  | _, _, _, _, .nil, e => by simp at e
  | _, _, 0, _, .cons h _, e => by simp at e; subst e; exact ⟨_, rfl, h⟩
  | _, _, i + 1, _, .cons _ t, e => by
    obtain ⟨a, h1, h2⟩ := pd_getL (i := i) t (by simpa using e)
    exact ⟨a, by simpa using h1, h2⟩
end

/-! ### values -/
mutual
inductive Rp (K : PySem.W.Frag) (Z : Hp) : V → D → Prop
  | non : Rp K Z .non .non
  | bl (b : Bool) : Rp K Z (.bl b) (.bl b)
  | int (i : Int) : Rp K Z (.int i) (.int i)
  | str (x : Str) : Rp K Z (.str x) (.str x)
  | tup {a : Addr} {vs : List V} {ds : List D} : Rd Z a (.tup vs) → RpL K Z vs ds → Rp K Z (.ref a) (.tup ds)
  | ttp {a : Addr} {o : Obj} {vs : List V} {ds : List D} : Z a = some (.frz o (.tup vs)) → o.dict = none → RpL K Z vs ds → Rp K Z (.ref a) (.ttp ds)
  | lst {a : Addr} {vs : List V} {ds : List D} : Z a = some (.lst vs) → RpL K Z vs ds → Rp K Z (.ref a) (.lst ds)
  | dic {a : Addr} {kvs : List (Key × V)} {ks : List Ky} {ds : List D} : Z a = some (.dK kvs) → kvs.map (·.1) = ks → RpL K Z (kvs.map (·.2)) ds → Rp K Z (.ref a) (.dic ks ds)
  | ins {a C dx : Addr} {fs : List (Str × V)} {ns : List Str} {ds : List D} : Z a = some (.ins C dx fs) → fs.map (·.1) = ns → RpL K Z (fs.map (·.2)) ds → Rp K Z (.ref a) (.ins C ns ds)
  | scr {a : Addr} {ns : List Int} : SqL K Z a (ns.map V.int) → Rp K Z (.ref a) (.scr ns)
  | fn {a : Addr} : Rp K Z (.ref a) (.fn a)
  | at {a : Addr} {d : D} : Rp K Z (.ref a) d → Rp K Z (.ref a) (.at a d)
inductive RpL (K : PySem.W.Frag) (Z : Hp) : List V → List D → Prop
  | nil : RpL K Z [] []
  | cons {v : V} {vs : List V} {d : D} {ds : List D} : Rp K Z v d → RpL K Z vs ds → RpL K Z (v :: vs) (d :: ds)
end
/-- Z' has all of Z -/
abbrev Le (Z Z' : Hp) : Prop := ∀ a o, Z a = some o → Z' a = some o
theorem rd_le {Z Z' : Hp} {a : Addr} {u : HO} (h : Rd Z a u) (k : Le Z Z') : Rd Z' a u := by
  rcases h with h | ⟨o, h⟩
  · exact .inl (k _ _ h)
  · exact .inr ⟨o, k _ _ h⟩
theorem sqL_le {K : PySem.W.Frag} {Z Z' : Hp} {a : Addr} {xs : List V} (h : SqL K Z a xs) (k : Le Z Z') : SqL K Z' a xs := by
  rcases h with h | h
  · rcases h with h | ⟨o, h⟩
    · exact .inl (.inl (k _ _ h))
    · exact .inl (.inr ⟨o, k _ _ h⟩)
  · exact .inr h
section
variable {K : PySem.W.Frag} {Z Z' : Hp}
mutual
theorem Rp.le (k : Le Z Z') : ∀ (d : D) (v : V), Rp K Z v d → Rp K Z' v d
  | .non, _, h => by cases h; exact .non
  | .bl _, _, h => by cases h; exact .bl _
  | .int _, _, h => by cases h; exact .int _
  | .str _, _, h => by cases h; exact .str _
  | .tup ds, _, h => by
    cases h with
    | tup h1 h2 => exact .tup (rd_le h1 k) (RpL.le k ds _ h2)
  | .lst ds, _, h => by
    cases h with
    | lst h1 h2 => exact .lst (k _ _ h1) (RpL.le k ds _ h2)
  | .dic ks ds, _, h => by
    cases h with
    | dic h1 h2 h3 => exact .dic (k _ _ h1) h2 (RpL.le k ds _ h3)
  | .ins C ns ds, _, h => by
    cases h with
    | ins h1 h2 h3 => exact .ins (k _ _ h1) h2 (RpL.le k ds _ h3)
  | .scr _, _, h => by
    cases h with
    | scr h1 => exact .scr (sqL_le h1 k)
  | .fn _, _, h => by cases h; exact .fn
  | .at a d, _, h => by
    cases h with
    | «at» h => exact .at (Rp.le k d _ h)
  | .ttp ds, _, h => by
    cases h with
    | ttp h1 h3 h2 => exact .ttp (k _ _ h1) h3 (RpL.le k ds _ h2)
theorem RpL.le (k : Le Z Z') : ∀ (ds : List D) (vs : List V), RpL K Z vs ds → RpL K Z' vs ds
  | [], _, h => by cases h; exact .nil
  | d :: ds, _, h => by
    cases h with
    | cons h1 h2 => exact .cons (Rp.le k d _ h1) (RpL.le k ds _ h2)
end
theorem RpL.pd : ∀ {ds : List D} {vs : List V}, RpL K Z vs ds → Paired (Rp K Z) vs ds
  | [], _, h => by cases h; exact .nil
  | d :: ds, _, h => by
    cases h with
    | cons h1 h2 => exact .cons h1 (RpL.pd h2)
theorem RpL.of : ∀ {ds : List D} {vs : List V}, Paired (Rp K Z) vs ds → RpL K Z vs ds
  | _, _, .nil => .nil
  | _, _, .cons h t => .cons h (RpL.of t)
theorem RpL.len {ds : List D} {vs : List V} (h : RpL K Z vs ds) : vs.length = ds.length := pd_len h.pd
theorem RpL.app {ds es : List D} {vs us : List V} (h : RpL K Z vs ds) (h' : RpL K Z us es) : RpL K Z (vs ++ us) (ds ++ es) := .of (pd_app h.pd h'.pd)
theorem RpL.snoc {ds : List D} {vs : List V} {v : V} {d : D} (h : RpL K Z vs ds) (h' : Rp K Z v d) : RpL K Z (vs ++ [v]) (ds ++ [d]) := h.app (.cons h' .nil)
theorem RpL.get {ds : List D} {vs : List V} {i : Nat} {d : D} (h : RpL K Z vs ds) (e : ds[i]? = some d) : ∃ v, vs[i]? = some v ∧ Rp K Z v d := pd_get h.pd e
theorem RpL.getL {ds : List D} {vs : List V} {i : Nat} {v : V} (h : RpL K Z vs ds) (e : vs[i]? = some v) : ∃ d, ds[i]? = some d ∧ Rp K Z v d := pd_getL h.pd e
theorem RpL.set {ds : List D} {vs : List V} {v : V} {d : D} (h' : Rp K Z v d) : ∀ {vs : List V} {ds : List D} (i : Nat), RpL K Z vs ds → RpL K Z (vs.set i v) (ds.set i d)
  | _, _, _, .nil => .nil
  | _, _, 0, .cons _ t => .cons h' t
  | _, _, i + 1, .cons q t => .cons q (RpL.set (ds := ds) (vs := vs) h' i t)
theorem RpL.take : ∀ {vs : List V} {ds : List D} (n : Nat), RpL K Z vs ds → RpL K Z (vs.take n) (ds.take n)
  | _, _, 0, _ => .nil
  | _, _, _ + 1, .nil => .nil
  | _, _, n + 1, .cons r t => .cons r (RpL.take n t)
theorem RpL.drop : ∀ {vs : List V} {ds : List D} (n : Nat), RpL K Z vs ds → RpL K Z (vs.drop n) (ds.drop n)
  | _, _, 0, r => r
  | _, _, _ + 1, .nil => .nil
  | _, _, n + 1, .cons _ t => RpL.drop n t
theorem RpL.ints : ∀ (ns : List Int), RpL K Z (ns.map V.int) (ns.map D.int)
  | [] => .nil
  | n :: ns => .cons (.int n) (RpL.ints ns)
theorem RpL.strs : ∀ (ns : List Str), RpL K Z (ns.map V.str) (ns.map D.str)
  | [] => .nil
  | n :: ns => .cons (.str n) (RpL.strs ns)
theorem RpL.of_ints : ∀ {ns : List Int} {vs : List V}, RpL K Z vs (ns.map D.int) → vs = ns.map V.int
  | [], _, h => by cases h; rfl
  | n :: ns, _, h => by
    cases h with
    | cons h1 h2 => cases h1; rw [RpL.of_ints h2]; rfl
theorem RpL.of_strs : ∀ {ns : List Str} {vs : List V}, RpL K Z vs (ns.map D.str) → vs = ns.map V.str
  | [], _, h => by cases h; rfl
  | n :: ns, _, h => by
    cases h with
    | cons h1 h2 => cases h1; rw [RpL.of_strs h2]; rfl
theorem RpL.of_bls : ∀ {ns : List Bool} {vs : List V}, RpL K Z vs (ns.map D.bl) → vs = ns.map V.bl
  | [], _, h => by cases h; rfl
  | n :: ns, _, h => by
    cases h with
    | cons h1 h2 => cases h1; rw [RpL.of_bls h2]; rfl
end

/-- an own object and its data -/
def RpO (K : PySem.W.Frag) (Z : Hp) : HO → D → Prop
  | .lst vs, .lst ds => RpL K Z vs ds
  | .dK kvs, .dic ks ds => kvs.map (·.1) = ks ∧ RpL K Z (kvs.map (·.2)) ds
  | _, _ => False
theorem RpO.le {K : PySem.W.Frag} {Z Z' : Hp} {o : HO} {d : D} (h : RpO K Z o d) (k : Le Z Z') : RpO K Z' o d := by
  cases o <;> cases d <;> first | exact RpL.le k _ _ h | exact ⟨h.1, RpL.le k _ _ h.2⟩ | exact h.elim
theorem RpO.rp {K : PySem.W.Frag} {Z : Hp} {a : Addr} {o : HO} {d : D} (h : RpO K Z o d) (e : Z a = some o) : Rp K Z (.ref a) d := by
  cases o <;> cases d <;> first | exact .lst e h | exact .dic e h.1 h.2 | exact h.elim

/-! ### slots -/
/-- the ground of a judgement: Fx stays; Zb had stayed at the beginning; H0: the entry -/
structure Bs where
  Fx : Hp
  Zb : Hp
  H0 : Hp
  io : Nat → Addr
def SlR (K : PySem.W.Frag) (B : Bs) (Z H : Hp) (v : Option V) (fp : List Addr) : Sl → Prop
  | .un => fp = []
  | .fz d => fp = [] ∧ ∃ u, v = some u ∧ Rp K Z u d
  | .ow d => ∃ a o, v = some (.ref a) ∧ fp = [a] ∧ Z a = none ∧ B.Fx a = none ∧ B.H0 a = none ∧ H a = some o ∧ RpO K Z o d
  | .io k d => ∃ a o, v = some (.ref a) ∧ fp = [a] ∧ Z a = none ∧ B.Fx a = none ∧ H a = some o ∧ RpO K Z o d ∧ B.io k = a
  | .oo ds => ∃ (a : Addr) (as : List Addr), v = some (.ref a) ∧ fp = a :: as ∧ (∀ b ∈ fp, Z b = none ∧ B.Fx b = none ∧ B.H0 b = none) ∧ H a = some (.lst (as.map .ref)) ∧
      Paired (fun b xs => ∃ vs, H b = some (.lst vs) ∧ RpL K Z vs xs) as ds
theorem SlR.move {K : PySem.W.Frag} {B B' : Bs} (kio : B'.io = B.io) {Z Z' H H' : Hp} {v : Option V} {fp : List Addr} : ∀ {s : Sl}, SlR K B Z H v fp s → Le Z Z' → (∀ a ∈ fp, Z a = none → Z' a = none) → (∀ a ∈ fp, B.Fx a = none → B'.Fx a = none) →
    (∀ a ∈ fp, B.H0 a = none → B'.H0 a = none) → (∀ a ∈ fp, H' a = H a) → SlR K B' Z' H' v fp s
  | .un, h, _, _, _, _, _ => h
  | .fz d, ⟨h1, u, h2, h3⟩, k, _, _, _, _ => ⟨h1, u, h2, Rp.le k d u h3⟩
  | .ow d, ⟨a, o, h1, h2, h3, h4, h5, h6, h7⟩, k, kz, kf, k0, kh => by
    have m : a ∈ fp := by rw [h2]; exact List.mem_cons_self ..
    exact ⟨a, o, h1, h2, kz a m h3, kf a m h4, k0 a m h5, (kh a m).trans h6, h7.le k⟩
  | .io j d, ⟨a, o, h1, h2, h3, h4, h6, h7, h8⟩, k, kz, kf, _, kh => by
    have m : a ∈ fp := by rw [h2]; exact List.mem_cons_self ..
    exact ⟨a, o, h1, h2, kz a m h3, kf a m h4, (kh a m).trans h6, h7.le k, by rw [kio]; exact h8⟩
  | .oo ds, ⟨a, as, h1, h2, h3, h4, h5⟩, k, kz, kf, k0, kh => by
    have m : a ∈ fp := by rw [h2]; exact List.mem_cons_self ..
    refine ⟨a, as, h1, h2, fun b hb => ⟨kz b hb (h3 b hb).1, kf b hb (h3 b hb).2.1, k0 b hb (h3 b hb).2.2⟩, (kh a m).trans h4, ?_⟩
    have all : ∀ {as : List Addr} {ds : List (List D)}, (∀ b ∈ as, b ∈ fp) → Paired (fun b xs => ∃ vs, H b = some (.lst vs) ∧ RpL K Z vs xs) as ds → Paired (fun b xs => ∃ vs, H' b = some (.lst vs) ∧ RpL K Z' vs xs) as ds := by
      intro as ds hm hp
      induction hp with
      | nil => exact .nil
      | cons h t ih =>
        obtain ⟨vs, e, r⟩ := h
        exact .cons ⟨vs, (kh _ (hm _ (List.mem_cons_self ..))).trans e, RpL.le k _ _ r⟩ (ih fun b hb => hm b (List.mem_cons_of_mem _ hb))
    exact all (fun b hb => by rw [h2]; exact List.mem_cons_of_mem _ hb) h5
/-- own addresses are tracked, not of what stays -/
theorem SlR.own {K : PySem.W.Frag} {B : Bs} {Z H : Hp} {v : Option V} {fp : List Addr} : ∀ {s : Sl}, SlR K B Z H v fp s → ∀ a ∈ fp, Z a = none ∧ B.Fx a = none ∧ ∃ o, H a = some o
  | .un, h, a, m => by rw [h] at m; cases m
  | .fz d, ⟨h1, _⟩, a, m => by rw [h1] at m; cases m
  | .ow d, ⟨b, o, _, h2, h3, h4, _, h6, _⟩, a, m => by
    rw [h2] at m
    rw [List.mem_singleton.mp m]
    exact ⟨h3, h4, o, h6⟩
  | .io _ d, ⟨b, o, _, h2, h3, h4, h6, _⟩, a, m => by
    rw [h2] at m
    rw [List.mem_singleton.mp m]
    exact ⟨h3, h4, o, h6⟩
  | .oo ds, ⟨b, as, _, h2, h3, h4, h5⟩, a, m => by
    refine ⟨(h3 a m).1, (h3 a m).2.1, ?_⟩
    rw [h2] at m
    rcases List.mem_cons.mp m with e | m
    · rw [e]; exact ⟨_, h4⟩
    · have all : ∀ {as : List Addr} {ds : List (List D)}, Paired (fun b xs => ∃ vs, H b = some (.lst vs) ∧ RpL K Z vs xs) as ds → ∀ a ∈ as, ∃ o, H a = some o := by
        intro as ds hp
        induction hp with
        | nil => intro a m; cases m
        | cons h t ih =>
          intro a m
          rcases List.mem_cons.mp m with e | m
          · obtain ⟨vs, e', _⟩ := h
            rw [e]; exact ⟨_, e'⟩
          · exact ih a m
      exact all h5 a m

abbrev Ent := Option V × Sl
def Reps (K : PySem.W.Frag) (B : Bs) (Z H : Hp) (es : List Ent) : Prop := ∃ fps : List (List Addr), Paired (fun (e : Ent) fp => SlR K B Z H e.1 fp e.2) es fps ∧ fps.flatten.Nodup
theorem Reps.move {K : PySem.W.Frag} {B B' : Bs} {Z Z' H H' : Hp} {es : List Ent} (h : Reps K B Z H es) (k : Le Z Z') (kz : ∀ a o, H a = some o → Z a = none → B.Fx a = none → Z' a = none) (kf : ∀ a o, H a = some o → B.Fx a = none → Z a = none → B'.Fx a = none)
    (k0 : ∀ a, B.H0 a = none → H a ≠ none → B'.H0 a = none) (kh : ∀ a o, H a = some o → Z a = none → B.Fx a = none → H' a = some o) (kio : B'.io = B.io) : Reps K B' Z' H' es := by
  obtain ⟨fps, h1, h2⟩ := h
  refine ⟨fps, pd_imp h1 fun e fp _ r => ?_, h2⟩
  have ow := r.own
  refine r.move kio k (fun a m z => ?_) (fun a m z => ?_) (fun a m z => ?_) (fun a m => ?_)
  · obtain ⟨_, f, o, e⟩ := ow a m; exact kz a o e z f
  · obtain ⟨z', _, o, e⟩ := ow a m; exact kf a o e z z'
  · obtain ⟨_, _, o, e⟩ := ow a m; exact k0 a z (by rw [e]; simp)
  · obtain ⟨z, f, o, e⟩ := ow a m; rw [e]; exact kh a o e z f
theorem nodup_app {α : Type} {l1 l2 : List α} (h : (l1 ++ l2).Nodup) : l1.Nodup ∧ l2.Nodup ∧ ∀ a ∈ l1, a ∉ l2 := by
  rw [List.nodup_append] at h
  exact ⟨h.1, h.2.1, fun a m1 m2 => h.2.2 a m1 a m2 rfl⟩
/-- one entry at hand -/
theorem Reps.focus {K : PySem.W.Frag} {B : Bs} {Z H : Hp} {l r : List Ent} {e : Ent} (h : Reps K B Z H (l ++ e :: r)) :
    ∃ fp : List Addr, SlR K B Z H e.1 fp e.2 ∧ fp.Nodup ∧ ∀ (B' : Bs) (Z' H' : Hp) (e' : Ent) (fp' : List Addr), SlR K B' Z' H' e'.1 fp' e'.2 → fp'.Nodup → Le Z Z' → (∀ a ∈ fp', a ∈ fp ∨ H a = none) →
      (∀ a o, H a = some o → a ∉ fp → Z a = none → B.Fx a = none → Z' a = none) → (∀ a o, H a = some o → a ∉ fp → Z a = none → B.Fx a = none → B'.Fx a = none) →
      (∀ a o, H a = some o → a ∉ fp → B.H0 a = none → B'.H0 a = none) → (∀ a o, H a = some o → a ∉ fp → Z a = none → B.Fx a = none → H' a = some o) → B'.io = B.io →
      Reps K B' Z' H' (l ++ e' :: r) := by
  obtain ⟨fps, h1, h2⟩ := h
  obtain ⟨f1, f2, rfl, p1, p2⟩ := pd_split h1
  cases p2 with
  | cons q p2 =>
    rename_i fp f2
    have e1 : (f1 ++ fp :: f2).flatten = f1.flatten ++ (fp ++ f2.flatten) := by simp
    rw [e1] at h2
    obtain ⟨n1, n2, d1⟩ := nodup_app h2
    obtain ⟨n3, n4, d2⟩ := nodup_app n2
    have out1 : ∀ g ∈ f1, ∀ a ∈ g, a ∉ fp := fun g hg a ha hf => d1 a (List.mem_flatten.mpr ⟨g, hg, ha⟩) (List.mem_append_left _ hf)
    have out2 : ∀ g ∈ f2, ∀ a ∈ g, a ∉ fp := fun g hg a ha hf => d2 a hf (List.mem_flatten.mpr ⟨g, hg, ha⟩)
    refine ⟨fp, q, n3, fun B' Z' H' e' fp' q' nd' k new kz kf k0 kh kio => ?_⟩
    have mv : ∀ {en : Ent} {g : List Addr}, SlR K B Z H en.1 g en.2 → (∀ a ∈ g, a ∉ fp) → SlR K B' Z' H' en.1 g en.2 := fun {en g} s hg => by
      have ow := s.own
      refine s.move kio k (fun a m z => ?_) (fun a m f => ?_) (fun a m z => ?_) (fun a m => ?_)
      · obtain ⟨_, f, o, e⟩ := ow a m; exact kz a o e (hg a m) z f
      · obtain ⟨z, _, o, e⟩ := ow a m; exact kf a o e (hg a m) z f
      · obtain ⟨_, _, o, e⟩ := ow a m; exact k0 a o e (hg a m) z
      · obtain ⟨z, f, o, e⟩ := ow a m; rw [e]; exact kh a o e (hg a m) z f
    have tr : ∀ {es : List Ent} {gs : List (List Addr)}, Paired (fun (e : Ent) fp => SlR K B Z H e.1 fp e.2) es gs → ∀ g ∈ gs, ∀ a ∈ g, ∃ o, H a = some o := by
      intro es gs hp
      induction hp with
      | nil => intro g m; cases m
      | cons h t ih =>
        intro g m a ha
        rcases List.mem_cons.mp m with e | m
        · subst e
          exact (h.own a ha).2.2
        · exact ih g m a ha
    refine ⟨f1 ++ fp' :: f2, pd_app (pd_imp p1 fun en g hg s => mv s (out1 g hg)) (.cons q' (pd_imp p2 fun en g hg s => mv s (out2 g hg))), ?_⟩
    have e2 : (f1 ++ fp' :: f2).flatten = f1.flatten ++ (fp' ++ f2.flatten) := by simp
    rw [e2]
    refine List.nodup_append.mpr ⟨n1, List.nodup_append.mpr ⟨nd', n4, fun a m1 b m2 ab => ?_⟩, fun a m1 b m2 ab => ?_⟩
    · subst ab
      obtain ⟨g, hg, ha⟩ := List.mem_flatten.mp m2
      rcases new a m1 with z | z
      · exact out2 g hg a ha z
      · obtain ⟨o, e⟩ := tr p2 g hg a ha
        rw [e] at z; cases z
    · subst ab
      obtain ⟨g, hg, ha⟩ := List.mem_flatten.mp m1
      rcases List.mem_append.mp m2 with m2 | m2
      · rcases new a m2 with z | z
        · exact out1 g hg a ha z
        · obtain ⟨o, e⟩ := tr p1 g hg a ha
          rw [e] at z; cases z
      · exact d1 a m1 (List.mem_append_right _ m2)
theorem pd_own {K : PySem.W.Frag} {B : Bs} {Z H : Hp} : ∀ {es : List Ent} {gs : List (List Addr)}, Paired (fun (e : Ent) fp => SlR K B Z H e.1 fp e.2) es gs → ∀ a ∈ gs.flatten, Z a = none ∧ B.Fx a = none ∧ ∃ o, H a = some o
  | _, _, .nil, a, m => by simp at m
  | _, _, .cons h t, a, m => by
    rw [List.flatten_cons] at m
    rcases List.mem_append.mp m with m | m
    · exact h.own a m
    · exact pd_own t a m
/-- what is to hold of a new state for the entries to stand -/
structure Mv (B B' : Bs) (Z Z' H H' : Hp) (ex : List Addr) : Prop where
  k : Le Z Z'
  kz : ∀ a o, H a = some o → a ∉ ex → Z a = none → B.Fx a = none → Z' a = none
  kf : ∀ a o, H a = some o → a ∉ ex → Z a = none → B.Fx a = none → B'.Fx a = none
  k0 : ∀ a o, H a = some o → a ∉ ex → B.H0 a = none → B'.H0 a = none
  kh : ∀ a o, H a = some o → a ∉ ex → Z a = none → B.Fx a = none → H' a = some o
  kio : B'.io = B.io := by rfl
theorem Mv.sl {K : PySem.W.Frag} {B B' : Bs} {Z Z' H H' : Hp} {ex : List Addr} (M : Mv B B' Z Z' H H' ex) {v : Option V} {s : Sl} {g : List Addr} (h : SlR K B Z H v g s) (hg : ∀ a ∈ g, a ∉ ex) : SlR K B' Z' H' v g s := by
  have ow := h.own
  refine h.move M.kio M.k (fun a m z => ?_) (fun a m f => ?_) (fun a m z => ?_) (fun a m => ?_)
  · obtain ⟨_, f, o, e⟩ := ow a m; exact M.kz a o e (hg a m) z f
  · obtain ⟨z, _, o, e⟩ := ow a m; exact M.kf a o e (hg a m) z f
  · obtain ⟨_, _, o, e⟩ := ow a m; exact M.k0 a o e (hg a m) z
  · obtain ⟨z, f, o, e⟩ := ow a m; rw [e]; exact M.kh a o e (hg a m) z f
theorem Mv.pd {K : PySem.W.Frag} {B B' : Bs} {Z Z' H H' : Hp} {ex : List Addr} (M : Mv B B' Z Z' H H' ex) {es : List Ent} {gs : List (List Addr)} (h : Paired (fun (e : Ent) fp => SlR K B Z H e.1 fp e.2) es gs) (hg : ∀ g ∈ gs, ∀ a ∈ g, a ∉ ex) :
    Paired (fun (e : Ent) fp => SlR K B' Z' H' e.1 fp e.2) es gs := pd_imp h fun e g m r => M.sl r (hg g m)
theorem Mv.reps {K : PySem.W.Frag} {B B' : Bs} {Z Z' H H' : Hp} (M : Mv B B' Z Z' H H' []) {es : List Ent} (h : Reps K B Z H es) : Reps K B' Z' H' es := by
  obtain ⟨fps, h1, h2⟩ := h
  exact ⟨fps, M.pd h1 fun _ _ _ _ m => (by cases m), h2⟩
/-- .. and one more, on addresses that were not tracked -/
theorem Mv.snoc {K : PySem.W.Frag} {B B' : Bs} {Z Z' H H' : Hp} (M : Mv B B' Z Z' H H' []) {es : List Ent} (h : Reps K B Z H es) {e : Ent} {g : List Addr} (r : SlR K B' Z' H' e.1 g e.2) (nd : g.Nodup) (new : ∀ a ∈ g, H a = none) : Reps K B' Z' H' (es ++ [e]) := by
  obtain ⟨fps, h1, h2⟩ := h
  have ow := pd_own h1
  refine ⟨fps ++ [g], pd_app (M.pd h1 fun _ _ _ _ m => (by cases m)) (.cons r .nil), ?_⟩
  rw [List.flatten_append]
  refine List.nodup_append.mpr ⟨h2, by simpa using nd, fun a m1 b m2 ab => ?_⟩
  subst ab
  obtain ⟨_, _, o, e⟩ := ow a m1
  rw [new a (by simpa using m2)] at e
  cases e
/-- one entry changed: its own addresses at hand -/
theorem Reps.at {K : PySem.W.Frag} {B : Bs} {Z H : Hp} {l r : List Ent} {e : Ent} (h : Reps K B Z H (l ++ e :: r)) :
    ∃ g : List Addr, SlR K B Z H e.1 g e.2 ∧ g.Nodup ∧ ∀ (B' : Bs) (Z' H' : Hp) (e' : Ent) (g' : List Addr), Mv B B' Z Z' H H' g → SlR K B' Z' H' e'.1 g' e'.2 → g'.Nodup → (∀ a ∈ g', a ∈ g ∨ H a = none) → Reps K B' Z' H' (l ++ e' :: r) := by
  obtain ⟨g, h1, h2, h3⟩ := h.focus
  exact ⟨g, h1, h2, fun B' Z' H' e' g' M s nd new => h3 B' Z' H' e' g' s nd M.k new M.kz M.kf M.k0 M.kh M.kio⟩
theorem Reps.sub {K : PySem.W.Frag} {B : Bs} {Z H : Hp} {l r : List Ent} (h : Reps K B Z H (l ++ r)) : Reps K B Z H l := by
  obtain ⟨fps, h1, h2⟩ := h
  obtain ⟨f1, f2, rfl, p1, _⟩ := pd_split h1
  rw [List.flatten_append] at h2
  exact ⟨f1, p1, (nodup_app h2).1⟩
end Pu

set_option Elab.async false
set_option linter.all false
set_option maxRecDepth 100000
/-! Pu, states and what is done to them. -/
namespace Pu
open PySem L2

abbrev tmps (tmp : List (V × Sl)) : List Ent := tmp.map fun p => (some p.1, p.2)
/-- the state: slots σ and heap H stand for the slots ρ; Z is what stays; tmp: values at hand -/
structure St1 (K : PySem.W.Frag) (B : Bs) (σ : L2.St) (H : Hp) (ρ : En) (Z : Hp) (tmp : List (V × Sl)) : Prop where
  len : σ.length = ρ.length
  sub : Le Z H
  zn : ∀ a o, Z a = some o → B.Zb a = some o ∨ (B.Fx a = none ∧ B.H0 a = none)
  zo : Le B.Zb Z
  fx : Le B.Fx H
  dm : ∀ a, B.H0 a ≠ none → H a ≠ none
  rp : Reps K B Z H (σ.zip ρ ++ tmps tmp)

theorem zip_focus : ∀ {σ : L2.St} {ρ : En} {i : Nat} {s : Sl}, σ.length = ρ.length → ρ[i]? = some s → ∃ (v : Option V) (l r : List Ent), σ[i]? = some v ∧ σ.zip ρ = l ++ (v, s) :: r ∧ ∀ v' s', (σ.set i v').zip (ρ.set i s') = l ++ (v', s') :: r
  | [], [], _, _, _, e => by simp at e
  | v :: σ, t :: ρ, 0, s, _, e => by
    simp at e; subst e
    exact ⟨v, [], σ.zip ρ, rfl, rfl, fun _ _ => rfl⟩
  | v :: σ, t :: ρ, i + 1, s, hl, e => by
    obtain ⟨u, l, r, h1, h2, h3⟩ := zip_focus (σ := σ) (ρ := ρ) (i := i) (s := s) (by simpa using hl) (by simpa using e)
    refine ⟨u, (v, t) :: l, r, by simpa using h1, by simp [h2], fun v' s' => ?_⟩
    simp [h3]
  | [], _ :: _, _, _, hl, _ => by simp at hl
  | _ :: _, [], _, _, hl, _ => by simp at hl
theorem set_same {α : Type} : ∀ {l : List α} {i : Nat} {x : α}, l[i]? = some x → l.set i x = l
  | [], _, _, e => by simp at e
  | _ :: _, 0, _, e => by simp at e; subst e; rfl
  | _ :: l, i + 1, x, e => by simp at e; simp [set_same (l := l) (i := i) (x := x) (by simpa using e)]
theorem le_upd {Z : Hp} {p : Addr} {o : HO} (h : Z p = none) : Le Z (upd Z p o) := fun a u e => by rw [upd_ne (ne_of_none e h)]; exact e
theorem upd_none {H : Hp} {a b : Addr} {o : HO} (h : H a = none) (ne : a ≠ b) : upd H b o a = none := by rw [upd_ne ne]; exact h
theorem upd_some {H : Hp} {a b : Addr} {o u : HO} (h : H a = some u) (ne : a ≠ b) : upd H b o a = some u := by rw [upd_ne ne]; exact h
theorem Le.trans' {Z1 Z2 Z3 : Hp} (h : Le Z1 Z2) (h' : Le Z2 Z3) : Le Z1 Z3 := fun a o e => h' a o (h a o e)

section
variable {K : PySem.W.Frag} {B : Bs} {σ : L2.St} {H H' : Hp} {ρ : En} {Z : Hp} {tmp : List (V × Sl)}
theorem St1.fresh (S : St1 K B σ H ρ Z tmp) {p : Addr} (hp : H p = none) : Z p = none ∧ B.Fx p = none ∧ B.H0 p = none := by
  refine ⟨?_, ?_, ?_⟩
  · cases e : Z p with
    | none => rfl
    | some o => rw [S.sub _ _ e] at hp; cases hp
  · cases e : B.Fx p with
    | none => rfl
    | some o => rw [S.fx _ _ e] at hp; cases hp
  · cases e : B.H0 p with
    | none => rfl
    | some o => exact absurd hp (S.dm p (by rw [e]; simp))
theorem mv_new {p : Addr} {o : HO} (hp : H p = none) : Mv B B Z Z H (upd H p o) [] :=
  ⟨fun _ _ e => e, fun _ _ _ _ z _ => z, fun _ _ _ _ _ f => f, fun _ _ _ _ z => z, fun _ _ e _ _ _ => upd_some e (ne_of_none e hp), rfl⟩
theorem tmps_snoc {p : V × Sl} : σ.zip ρ ++ tmps (tmp ++ [p]) = (σ.zip ρ ++ tmps tmp) ++ [(some p.1, p.2)] := by simp [tmps]
/-- a new own object -/
theorem St1.alloc (S : St1 K B σ H ρ Z tmp) {p : Addr} {o : HO} {d : D} (hp : H p = none) (r : RpO K Z o d) : St1 K B σ (upd H p o) ρ Z (tmp ++ [(.ref p, .ow d)]) := by
  obtain ⟨z, f, h0⟩ := S.fresh hp
  refine ⟨S.len, fun a u e => upd_some (S.sub _ _ e) (ne_of_none (S.sub _ _ e) hp), S.zn, S.zo, fun a u e => upd_some (S.fx _ _ e) (ne_of_none (S.fx _ _ e) hp), fun a e => ?_, ?_⟩
  · by_cases ap : a = p
    · rw [ap, upd_same]; simp
    · rw [upd_ne ap]; exact S.dm a e
  · rw [tmps_snoc]
    exact (mv_new hp).snoc S.rp (g := [p]) ⟨p, o, rfl, rfl, z, f, h0, upd_same, r⟩ (by simp) fun a m => by rw [List.mem_singleton.mp m]; exact hp
/-- a new object that stays -/
theorem St1.allocZ (S : St1 K B σ H ρ Z tmp) {p : Addr} {o : HO} (hp : H p = none) : St1 K B σ (upd H p o) ρ (upd Z p o) tmp ∧ Le Z (upd Z p o) := by
  obtain ⟨z, f, h0⟩ := S.fresh hp
  refine ⟨⟨S.len, fun a u e => ?_, fun a u e => ?_, S.zo.trans' (le_upd z), fun a u e => upd_some (S.fx _ _ e) (ne_of_none (S.fx _ _ e) hp), fun a e => ?_, ?_⟩, le_upd z⟩
  · by_cases ap : a = p
    · rw [ap, upd_same] at e ⊢; exact e
    · rw [upd_ne ap] at e ⊢; exact S.sub _ _ e
  · by_cases ap : a = p
    · rw [ap]; exact .inr ⟨f, h0⟩
    · rw [upd_ne ap] at e; exact S.zn _ _ e
  · by_cases ap : a = p
    · rw [ap, upd_same]; simp
    · rw [upd_ne ap]; exact S.dm a e
  · exact Mv.reps ⟨le_upd z, fun a u e _ z' _ => upd_none z' (ne_of_none e hp), fun _ _ _ _ _ f => f, fun _ _ _ _ z => z, fun a u e _ _ _ => upd_some e (ne_of_none e hp), rfl⟩ S.rp
theorem St1.drop (S : St1 K B σ H ρ Z tmp) : St1 K B σ H ρ Z [] := ⟨S.len, S.sub, S.zn, S.zo, S.fx, S.dm, by have := S.rp.sub; simpa [tmps] using this⟩
/-- the last value at hand, of whatever make, is one that stays -/
theorem St1.thaw {v : V} {s : Sl} {d : D} (S : St1 K B σ H ρ Z (tmp ++ [(v, s)])) (hs : s = .fz d ∨ s = .ow d) : ∃ Z', Le Z Z' ∧ St1 K B σ H ρ Z' (tmp ++ [(v, .fz d)]) ∧ Rp K Z' v d := by
  have R := S.rp
  rw [tmps_snoc] at R
  obtain ⟨g, q, nd, put⟩ := Reps.at (r := []) R
  rcases hs with rfl | rfl
  · obtain ⟨_, u, e, r⟩ := id q
    have e' : some v = some u := e
    cases e'
    exact ⟨Z, fun _ _ e => e, S, r⟩
  · obtain ⟨a, o, e, rfl, z, f, h0, ha, ro⟩ := q
    have e' : some v = some (V.ref a) := e
    cases e'
    refine ⟨upd Z a o, le_upd z, ⟨S.len, fun b u eb => ?_, fun b u eb => ?_, S.zo.trans' (le_upd z), S.fx, S.dm, ?_⟩, ?_⟩
    · by_cases ap : b = a
      · rw [ap, upd_same] at eb; rw [ap, ha]; exact eb
      · rw [upd_ne ap] at eb; exact S.sub _ _ eb
    · by_cases ap : b = a
      · rw [ap]; exact .inr ⟨f, h0⟩
      · rw [upd_ne ap] at eb; exact S.zn _ _ eb
    · rw [tmps_snoc]
      refine put B _ H (some (.ref a), .fz d) [] ⟨le_upd z, fun b u eb nb z' _ => upd_none z' (by simpa using nb), fun _ _ _ _ _ f => f, fun _ _ _ _ z => z, fun _ _ e _ _ _ => e, rfl⟩ ⟨rfl, _, rfl, (ro.le (le_upd z)).rp upd_same⟩ (by simp) (fun _ m => by cases m)
    · exact (ro.le (le_upd z)).rp upd_same
/-- a list of own lists too -/
theorem oo_rp {Z : Hp} : ∀ {as : List Addr} {ds : List (List D)}, Paired (fun b xs => ∃ vs, Z b = some (.lst vs) ∧ RpL K Z vs xs) as ds → RpL K Z (as.map .ref) (ds.map .lst)
  | _, _, .nil => .nil
  | _, _, .cons ⟨_, e, r⟩ t => .cons (.lst e r) (oo_rp t)
theorem St1.thawS {i : Nat} {s : Sl} {d : D} (S : St1 K B σ H ρ Z []) (e : ρ[i]? = some s) (hs : s = .fz d ∨ s = .ow d ∨ ∃ ds, s = .oo ds ∧ d = .lst (ds.map .lst)) :
    ∃ Z' v, Le Z Z' ∧ σ[i]? = some (some v) ∧ St1 K B σ H (ρ.set i (.fz d)) Z' [] ∧ Rp K Z' v d := by
  obtain ⟨v, l, r, e1, e2, e3⟩ := zip_focus S.len e
  have R := S.rp
  simp only [tmps, List.map_nil, List.append_nil, e2] at R
  obtain ⟨g, q, nd, put⟩ := Reps.at R
  have fin : ∀ {u : V} {Z' : Hp}, σ[i]? = some (some u) → Le Z Z' → (∀ b o, Z' b = some o → Z b = some o ∨ (b ∈ g ∧ H b = some o ∧ B.Fx b = none ∧ B.H0 b = none)) → Rp K Z' u d →
      (∀ b o, H b = some o → b ∉ g → Z b = none → Z' b = none) → St1 K B σ H (ρ.set i (.fz d)) Z' [] := fun {u Z'} eu le back rp out => by
    refine ⟨by rw [List.length_set]; exact S.len, fun b o eb => ?_, fun b o eb => ?_, S.zo.trans' le, S.fx, S.dm, ?_⟩
    · rcases back b o eb with z | ⟨_, z, _⟩
      · exact S.sub _ _ z
      · exact z
    · rcases back b o eb with z | ⟨_, _, z⟩
      · exact S.zn _ _ z
      · exact .inr z
    · have e4 := e3 (some u) (.fz d)
      rw [set_same eu] at e4
      simp only [tmps, List.map_nil, List.append_nil]
      rw [e4]
      exact put B Z' H (some u, .fz d) [] ⟨le, fun b o eb nb z _ => out b o eb nb z, fun _ _ _ _ _ f => f, fun _ _ _ _ z => z, fun _ _ e _ _ _ => e, rfl⟩ ⟨rfl, u, rfl, rp⟩ (by simp) (fun _ m => by cases m)
  rcases hs with rfl | rfl | ⟨ds, rfl, rfl⟩
  · obtain ⟨_, u, e', r⟩ := id q
    have e' : v = some u := e'
    subst e'
    exact ⟨Z, u, fun _ _ e => e, e1, fin e1 (fun _ _ e => e) (fun _ _ z => .inl z) r (fun _ _ _ _ z => z), r⟩
  · obtain ⟨a, o, e', rfl, z, f, h0, ha, ro⟩ := q
    have e' : v = some (V.ref a) := e'
    subst e'
    have rr := (ro.le (le_upd (o := o) z)).rp upd_same
    refine ⟨upd Z a o, .ref a, le_upd z, e1, fin e1 (le_upd z) (fun b u eb => ?_) rr (fun b u eb nb z' => upd_none z' (by simpa using nb)), rr⟩
    by_cases ap : b = a
    · rw [ap, upd_same] at eb; rw [ap]; exact .inr ⟨by simp, ha.trans eb, f, h0⟩
    · rw [upd_ne ap] at eb; exact .inl eb
  · obtain ⟨a, as, e', rfl, zs, ha, pr⟩ := q
    have e' : v = some (V.ref a) := e'
    subst e'
    let Z' : Hp := fun b => if b ∈ a :: as then H b else Z b
    have zin : ∀ {b : Addr}, b ∈ a :: as → Z' b = H b := fun m => if_pos m
    have zout : ∀ {b : Addr}, b ∉ a :: as → Z' b = Z b := fun m => if_neg m
    have le : Le Z Z' := fun b o eb => by
      by_cases m : b ∈ a :: as
      · rw [(zs b m).1] at eb; cases eb
      · rw [zout m]; exact eb
    have pr' : Paired (fun b xs => ∃ vs, Z' b = some (.lst vs) ∧ RpL K Z' vs xs) as ds := by
      have all : ∀ {as' : List Addr} {ds : List (List D)}, (∀ b ∈ as', b ∈ a :: as) → Paired (fun b xs => ∃ vs, H b = some (.lst vs) ∧ RpL K Z vs xs) as' ds → Paired (fun b xs => ∃ vs, Z' b = some (.lst vs) ∧ RpL K Z' vs xs) as' ds := by
        intro as' ds hm hp
        induction hp with
        | nil => exact .nil
        | cons h t ih =>
          obtain ⟨vs, e, r⟩ := h
          exact .cons ⟨vs, (zin (hm _ (List.mem_cons_self ..))).trans e, RpL.le le _ _ r⟩ (ih fun b hb => hm b (List.mem_cons_of_mem _ hb))
      exact all (fun b hb => List.mem_cons_of_mem _ hb) pr
    have rr : Rp K Z' (.ref a) (.lst (ds.map .lst)) := .lst ((zin (List.mem_cons_self ..)).trans ha) (oo_rp pr')
    refine ⟨Z', .ref a, le, e1, fin e1 le (fun b u eb => ?_) rr (fun b u eb nb z' => by rw [zout nb]; exact z'), rr⟩
    by_cases m : b ∈ a :: as
    · rw [zin m] at eb; exact .inr ⟨m, eb, (zs b m).2⟩
    · rw [zout m] at eb; exact .inl eb
/-- a value at hand goes to a slot -/
theorem St1.store {i : Nat} {v : V} {s : Sl} {rest : List (V × Sl)} (S : St1 K B σ H ρ Z ((v, s) :: rest)) : St1 K B (σ.set i (some v)) H (ρ.set i s) Z rest := by
  refine ⟨by simp [S.len], S.sub, S.zn, S.zo, S.fx, S.dm, ?_⟩
  obtain ⟨fps, h1, h2⟩ := S.rp
  obtain ⟨f1, f2, rfl, p1, p2⟩ := pd_split h1
  cases p2 with
  | cons q p3 =>
  rename_i g f3
  simp only [List.flatten_append, List.flatten_cons] at h2
  obtain ⟨n1, n2, d⟩ := nodup_app h2
  obtain ⟨n3, n4, d3⟩ := nodup_app n2
  cases e : ρ[i]? with
  | none =>
    have hi : ρ.length ≤ i := List.getElem?_eq_none_iff.mp e
    rw [List.set_eq_of_length_le (by rw [S.len]; exact hi), List.set_eq_of_length_le hi]
    refine ⟨f1 ++ f3, pd_app p1 p3, ?_⟩
    rw [List.flatten_append]
    exact List.nodup_append.mpr ⟨n1, n4, fun a ha b hb ab => d a ha (List.mem_append_right _ (ab ▸ hb))⟩
  | some s0 =>
    obtain ⟨u, l, r, e1, e2, e3⟩ := zip_focus S.len e
    rw [e3]
    rw [e2] at p1
    obtain ⟨g1, g2, rfl, q1, q2⟩ := pd_split p1
    cases q2 with
    | cons q0 q2 =>
      rename_i g0 g2
      refine ⟨(g1 ++ g :: g2) ++ f3, pd_app (pd_app q1 (.cons q q2)) p3, ?_⟩
      have e4 : (g1 ++ g0 :: g2).flatten = g1.flatten ++ (g0 ++ g2.flatten) := by simp
      have e5 : ((g1 ++ g :: g2) ++ f3).flatten = (g1.flatten ++ (g ++ g2.flatten)) ++ f3.flatten := by simp
      rw [e4] at n1 d
      rw [e5]
      obtain ⟨m1, m2, md⟩ := nodup_app n1
      obtain ⟨_, m4, _⟩ := nodup_app m2
      refine List.nodup_append.mpr ⟨List.nodup_append.mpr ⟨m1, List.nodup_append.mpr ⟨n3, m4, fun a ha b hb ab => ?_⟩, fun a ha b hb ab => ?_⟩, n4, fun a ha b hb ab => ?_⟩
      · subst ab
        exact d a (List.mem_append_right _ (List.mem_append_right _ hb)) (List.mem_append_left _ ha)
      · subst ab
        rcases List.mem_append.mp hb with hb | hb
        · exact d a (List.mem_append_left _ ha) (List.mem_append_left _ hb)
        · exact md a ha (List.mem_append_right _ hb)
      · subst ab
        rcases List.mem_append.mp ha with ha | ha
        · exact d a (List.mem_append_left _ ha) (List.mem_append_right _ hb)
        · rcases List.mem_append.mp ha with ha | ha
          · exact d3 a ha hb
          · exact d a (List.mem_append_right _ (List.mem_append_right _ ha)) (List.mem_append_right _ hb)
/-- a slot is forgotten -/
theorem St1.forget {i : Nat} (S : St1 K B σ H ρ Z []) {x : Option V} : St1 K B (σ.set i x) H (ρ.set i .un) Z [] := by
  refine ⟨by simp [S.len], S.sub, S.zn, S.zo, S.fx, S.dm, ?_⟩
  simp only [tmps, List.map_nil, List.append_nil]
  have R := S.rp
  simp only [tmps, List.map_nil, List.append_nil] at R
  cases e : ρ[i]? with
  | none =>
    have hi : ρ.length ≤ i := List.getElem?_eq_none_iff.mp e
    rw [List.set_eq_of_length_le (by rw [S.len]; exact hi), List.set_eq_of_length_le hi]
    exact R
  | some s0 =>
    obtain ⟨u, l, r, e1, e2, e3⟩ := zip_focus S.len e
    rw [e3]
    rw [e2] at R
    obtain ⟨g, q, nd, put⟩ := Reps.at R
    exact put B Z H (x, .un) [] ⟨fun _ _ e => e, fun _ _ _ _ z _ => z, fun _ _ _ _ _ f => f, fun _ _ _ _ z => z, fun _ _ e _ _ _ => e, rfl⟩ rfl (by simp) (fun _ m => by cases m)
/-- an own object is written; the values at hand stay -/
theorem St1.write {i : Nat} {s s' : Sl} {d d' : D} (S : St1 K B σ H ρ Z []) (e : ρ[i]? = some s) (hs : (s = .ow d ∧ s' = .ow d') ∨ ∃ k, s = .io k d ∧ s' = .io k d') :
    ∃ a o, σ[i]? = some (some (.ref a)) ∧ H a = some o ∧ RpO K Z o d ∧ ∀ o', RpO K Z o' d' → St1 K B σ (upd H a o') (ρ.set i s') Z [] := by
  obtain ⟨v, l, r, e1, e2, e3⟩ := zip_focus S.len e
  have R := S.rp
  simp only [tmps, List.map_nil, List.append_nil, e2] at R
  obtain ⟨g, q, nd, put⟩ := Reps.at R
  have fin : ∀ {a : Addr} {o o' : HO}, v = some (.ref a) → g = [a] → Z a = none → B.Fx a = none → H a = some o → SlR K B Z (upd H a o') (some (.ref a)) [a] s' → St1 K B σ (upd H a o') (ρ.set i s') Z [] := fun {a o o'} ev eg z f ha sl => by
    subst ev eg
    refine ⟨by rw [List.length_set]; exact S.len, fun b u eb => upd_some (S.sub _ _ eb) (ne_of_none eb z), S.zn, S.zo, fun b u eb => upd_some (S.fx _ _ eb) (ne_of_none eb f), fun b eb => ?_, ?_⟩
    · by_cases ap : b = a
      · rw [ap, upd_same]; simp
      · rw [upd_ne ap]; exact S.dm b eb
    · have e4 := e3 (some (.ref a)) s'
      rw [set_same e1] at e4
      simp only [tmps, List.map_nil, List.append_nil]
      rw [e4]
      exact put B Z _ (some (.ref a), s') [a] ⟨fun _ _ e => e, fun _ _ _ _ z _ => z, fun _ _ _ _ _ f => f, fun _ _ _ _ z => z, fun b u eb nb _ _ => upd_some eb (by simpa using nb), rfl⟩ sl (by simp) (fun b m => .inl m)
  rcases hs with ⟨rfl, rfl⟩ | ⟨k, rfl, rfl⟩
  · obtain ⟨a, o, e', eg, z, f, h0, ha, ro⟩ := q
    have e' : v = some (V.ref a) := e'
    refine ⟨a, o, by rw [← e']; exact e1, ha, ro, fun o' r' => fin e' eg z f ha ⟨a, o', rfl, rfl, z, f, h0, upd_same, r'⟩⟩
  · obtain ⟨a, o, e', eg, z, f, ha, ro, kk⟩ := q
    have e' : v = some (V.ref a) := e'
    exact ⟨a, o, by rw [← e']; exact e1, ha, ro, fun o' r' => fin e' eg z f ha ⟨a, o', rfl, rfl, z, f, upd_same, r', kk⟩⟩
/-- the ground moved up to now -/
theorem St1.rebase (S : St1 K B σ H ρ Z tmp) : St1 K { B with Zb := Z } σ H ρ Z tmp :=
  ⟨S.len, S.sub, fun _ _ e => .inl e, fun _ _ e => e, S.fx, S.dm, Mv.reps (B := B) ⟨fun _ _ e => e, fun _ _ _ _ z _ => z, fun _ _ _ _ _ f => f, fun _ _ _ _ z => z, fun _ _ e _ _ _ => e, rfl⟩ S.rp⟩
theorem St1.unbase {σ' : L2.St} {ρ' : En} {tmp' : List (V × Sl)} {Z' : Hp} (S : St1 K { B with Zb := Z } σ' H' ρ' Z' tmp') (h : ∀ a o, Z a = some o → B.Zb a = some o ∨ (B.Fx a = none ∧ B.H0 a = none)) (k : Le B.Zb Z) : St1 K B σ' H' ρ' Z' tmp' ∧ Le Z Z' :=
  ⟨⟨S.len, S.sub, fun a o e => (S.zn a o e).elim (h a o) .inr, k.trans' S.zo, S.fx, S.dm, Mv.reps (B := { B with Zb := Z }) ⟨fun _ _ e => e, fun _ _ _ _ z _ => z, fun _ _ _ _ _ f => f, fun _ _ _ _ z => z, fun _ _ e _ _ _ => e, rfl⟩ S.rp⟩, S.zo⟩
/-- a value at hand is held while something else runs -/
theorem St1.hold {v : V} {s : Sl} (S : St1 K B σ H ρ Z [(v, s)]) (hs : (∃ d, s = .fz d) ∨ ∃ d, s = .ow d) :
    ∃ B' : Bs, St1 K B' σ H ρ Z [] ∧ ∀ (σ' : L2.St) (H' : Hp) (ρ' : En) (Z' : Hp) (tmp : List (V × Sl)), St1 K B' σ' H' ρ' Z' tmp → St1 K B σ' H' ρ' Z' ((v, s) :: tmp) ∧ Le Z Z' := by
  have R := S.rp
  obtain ⟨fps, h1, h2⟩ := id R
  obtain ⟨f1, f2, rfl, p1, p2⟩ := pd_split h1
  obtain ⟨g, rfl, q⟩ := pd_one p2
  have S0 := S.drop.rebase
  -- the entry goes between the slots and the rest
  have ins : ∀ {B' : Bs} {σ' : L2.St} {H' : Hp} {ρ' : En} {Z' : Hp} {tmp : List (V × Sl)} {g' : List Addr} {fps : List (List Addr)}, Paired (fun (e : Ent) fp => SlR K B' Z' H' e.1 fp e.2) (σ'.zip ρ' ++ tmps tmp) fps → fps.flatten.Nodup →
      SlR K B' Z' H' (some v) g' s → g'.Nodup → (∀ a ∈ g', a ∉ fps.flatten) → Reps K B' Z' H' (σ'.zip ρ' ++ tmps ((v, s) :: tmp)) := fun {B' σ' H' ρ' Z' tmp g' fps} k1 k2 q' nd' o => by
    obtain ⟨a1, a2, rfl, m1, m2⟩ := pd_split k1
    refine ⟨a1 ++ g' :: a2, pd_app m1 (.cons q' m2), ?_⟩
    rw [List.flatten_append] at k2 o
    obtain ⟨n1, n2, dd⟩ := nodup_app k2
    have e5 : (a1 ++ g' :: a2).flatten = a1.flatten ++ (g' ++ a2.flatten) := by simp
    rw [e5]
    refine List.nodup_append.mpr ⟨n1, List.nodup_append.mpr ⟨nd', n2, fun a ha b hb ab => ?_⟩, fun a ha b hb ab => ?_⟩
    · subst ab; exact o a ha (List.mem_append_right _ hb)
    · subst ab
      rcases List.mem_append.mp hb with hb | hb
      · exact o a hb (List.mem_append_left _ ha)
      · exact dd a ha hb
  rcases hs with ⟨d, rfl⟩ | ⟨d, rfl⟩
  · refine ⟨{ B with Zb := Z }, S0, fun σ' H' ρ' Z' tmp S' => ?_⟩
    obtain ⟨T, k⟩ := S'.unbase (B := B) (Z := Z) S.zn S.zo
    obtain ⟨eg, u, e, r⟩ := q
    have e : some v = some u := e
    cases e
    refine ⟨⟨T.len, T.sub, T.zn, T.zo, T.fx, T.dm, ?_⟩, k⟩
    obtain ⟨fps, k1, k2⟩ := T.rp
    exact ins (g' := []) k1 k2 ⟨rfl, v, rfl, Rp.le k d v r⟩ (by simp) (fun _ m => by cases m)
  · obtain ⟨a, o, e, rfl, z, f, h0, ha, ro⟩ := q
    have e : some v = some (V.ref a) := e
    cases e
    generalize hF : upd B.Fx a o = F'
    have Fa : F' a = some o := by rw [← hF, upd_same]
    have Fb : ∀ {b : Addr}, b ≠ a → F' b = B.Fx b := fun nb => by rw [← hF, upd_ne nb]
    refine ⟨⟨F', Z, B.H0, B.io⟩, ⟨S.len, S.sub, fun _ _ e => .inl e, fun _ _ e => e, fun b u eb => ?_, S.dm, ?_⟩, fun σ' H' ρ' Z' tmp S' => ?_⟩
    · have eb : F' b = some u := eb
      by_cases ap : b = a
      · rw [ap, Fa] at eb; rw [ap, ha]; exact eb
      · rw [Fb ap] at eb; exact S.fx _ _ eb
    · simp only [tmps, List.map_nil, List.append_nil]
      simp only [List.flatten_append, List.flatten_cons, List.flatten_nil, List.append_nil] at h2
      obtain ⟨n1, _, dd⟩ := nodup_app h2
      refine ⟨f1, Mv.pd (B := B) (B' := ⟨F', Z, B.H0, B.io⟩) (ex := [a]) ⟨fun _ _ e => e, fun _ _ _ _ z _ => z, fun b _ _ nb _ f => (Fb (by simpa using nb)).trans f, fun _ _ _ _ z => z, fun _ _ e _ _ _ => e, rfl⟩ p1 (fun g hg b hb m => ?_), n1⟩
      exact dd b (List.mem_flatten.mpr ⟨g, hg, hb⟩) m
    · have ha' : H' a = some o := S'.fx a o Fa
      have z' : Z' a = none := by
        cases e : Z' a with
        | none => rfl
        | some u =>
          rcases S'.zn a u e with q | ⟨q, _⟩
          · have q : Z a = some u := q
            rw [z] at q; cases q
          · have q : F' a = none := q
            rw [Fa] at q; cases q
      have k : Le Z Z' := S'.zo
      have back : ∀ {b : Addr}, F' b = none → B.Fx b = none := fun {b} q => by
        by_cases ap : b = a
        · rw [ap]; exact f
        · rw [Fb ap] at q; exact q
      refine ⟨⟨S'.len, S'.sub, fun b u e => ?_, S.zo.trans' k, fun b u e => S'.fx b u ((Fb (ne_of_none e f)).trans e), S'.dm, ?_⟩, k⟩
      · rcases S'.zn b u e with q | ⟨q, q2⟩
        · exact S.zn b u q
        · exact .inr ⟨back q, q2⟩
      · obtain ⟨fps, k1, k2⟩ := S'.rp
        refine ins (g' := [a]) (Mv.pd (B := ⟨F', Z, B.H0, B.io⟩) (B' := B) (ex := []) ⟨fun _ _ e => e, fun _ _ _ _ z _ => z, fun b _ _ _ _ f' => back f', fun _ _ _ _ z => z, fun _ _ e _ _ _ => e, rfl⟩ k1 (fun _ _ _ _ m => by cases m)) k2 ⟨a, o, rfl, rfl, z', f, h0, ha', ro.le k⟩ (by simp) (fun b mb hm => ?_)
        rw [List.mem_singleton.mp mb] at hm
        obtain ⟨_, q, _⟩ := pd_own k1 a hm
        have q : F' a = none := q
        rw [Fa] at q; cases q
end
end Pu

set_option Elab.async false
set_option linter.all false
set_option maxRecDepth 100000
/-! Pu, the judgements: a piece of syntax, run in the heap, does what its reading over plain data says. -/
namespace Pu
open PySem L2

/-- the contexts in which a piece of syntax is read: a def's body, or a block within it at any of its starts -/
structure Fm where
  ι : Type
  X : ι → Cx
  K : PySem.W.Frag
  W : WX
  hK : ∀ i, (X i).K = K
  calm : ∀ i, (X i).calm = true
  nd : ∀ i, (X i).N.Nodup
  un : ∀ i, (X i).A.units + 80 < cLine
  gd : ∀ i, (X i).A.guards = some []
  po : ∀ i, PassesOwn (model (X i).prog (X i).w) (X i).A (X i).env (X i).xe
  tk : ∀ i, Takes (X i) W
  w : World
  hw : ∀ i, (X i).w = w

/-- what is wanted of an error is what the context takes -/
def ExOk (F : Fm) (B : Bs) (E : EX) : Prop := ∀ σ H ρ Z C dx v d, St1 F.K B σ H ρ Z [] → H dx = some (.xd [("value", v)]) → Rp F.K Z v d → E C d ρ → F.W (.ref C) (some dx) σ H
def LE (F : Fm) (t : TE) (w : WE) : Prop := ∀ B σ H ρ Z Q Q' E, St1 F.K B σ H ρ Z [] → ExOk F B E → w E ρ Q' → (∀ v s H' ρ' Z', St1 F.K B σ H' ρ' Z' [(v, s)] → Le Z Z' → Q' s ρ' → Q v H') → t σ H Q
def LE' (F : Fm) (t : TE) (w : WE) : Prop := ∀ B σ H ρ Z Q Q' E, St1 F.K B σ H ρ Z [] → ExOk F B E → w E ρ Q' → (∀ v s H' ρ' Z', St1 F.K B σ H' ρ' Z' [(v, s)] → Q' s ρ' → Q v H') → t σ H Q
def RE (F : Fm) (e : Expr) (w : WE) : Prop := ∃ t, (∀ i, PE (F.X i) e t) ∧ LE F t w
def RrOk (K : PySem.W.Frag) (σ : L2.St) (Z : Hp) (v : V) : Rr → Prop
  | .val d => Rp K Z v d
  | .at i => σ[i]? = some (some v)
def LR (F : Fm) (t : TE) (w : WR) : Prop := ∀ B σ H ρ Z Q Q' E, St1 F.K B σ H ρ Z [] → ExOk F B E → w E ρ Q' → (∀ v r H' ρ' Z', St1 F.K B σ H' ρ' Z' [] → Le Z Z' → RrOk F.K σ Z' v r → Q' r ρ' → Q v H') → t σ H Q
def RR (F : Fm) (e : Expr) (w : WR) : Prop := ∃ t, (∀ i, PE (F.X i) e t) ∧ LR F t w
def LRs (F : Fm) (t : TA) (w : WRs) : Prop := ∀ B σ H ρ Z Q Q' E, St1 F.K B σ H ρ Z [] → ExOk F B E → w E ρ Q' → (∀ vs rs H' ρ' Z', St1 F.K B σ H' ρ' Z' [] → Le Z Z' → Paired (RrOk F.K σ Z') vs rs → Q' rs ρ' → Q vs H') → t σ H Q
def RRs (F : Fm) (es : List Expr) (w : WRs) : Prop := ∃ t, (∀ i, PA (F.X i) es t) ∧ LRs F t w
def LVs (F : Fm) (t : TA) (w : WVs) : Prop := ∀ B σ H ρ Z Q Q' E, St1 F.K B σ H ρ Z [] → ExOk F B E → w E ρ Q' → (∀ vs ds H' ρ' Z', St1 F.K B σ H' ρ' Z' [] → Le Z Z' → RpL F.K Z' vs ds → Q' ds ρ' → Q vs H') → t σ H Q
def RVs (F : Fm) (es : List Expr) (w : WVs) : Prop := ∃ t, (∀ i, PA (F.X i) es t) ∧ LVs F t w
def ArOk (K : PySem.W.Frag) (σ : L2.St) (Z : Hp) (v : V) : Ar → Prop
  | .v d => Rp K Z v d
  | .s i => σ[i]? = some (some v)
def LAs (F : Fm) (t : TA) (w : WAs) (ms : List Md) (is : List Nat) : Prop := ∀ B σ H ρ Z Q Q' E, St1 F.K B σ H ρ Z [] → ExOk F B E → w E ρ Q' → (∀ vs as H' ρ' Z', St1 F.K B σ H' ρ' Z' [] → Le Z Z' → Paired (ArOk F.K σ Z') vs as → modesOf as = ms → slotsOf as = is → Q' as ρ' → Q vs H') → t σ H Q
def LT (F : Fm) (t : TT) (w : WT) : Prop := ∀ B σ H ρ Z Q Q' E, St1 F.K B σ H ρ Z [] → ExOk F B E → w E ρ Q' → (∀ b H' ρ' Z', St1 F.K B σ H' ρ' Z' [] → Le Z Z' → Q' b ρ' → Q b H') → t σ H Q
def RT (F : Fm) (e : Expr) (w : WT) : Prop := ∃ t, (∀ i, PT (F.X i) e t) ∧ LT F t w
def RW (F : Fm) (e : Expr) (w : WT) : Prop := ∃ t, (∀ i, PW (F.X i) e t) ∧ LT F t w
structure EnOk (F : Fm) (B : Bs) (D : Ends) (K : EndD) : Prop where
  nx : ∀ σ H ρ Z, St1 F.K B σ H ρ Z [] → K.nx ρ → D.nx σ H
  rt : ∀ σ v s H ρ Z, St1 F.K B σ H ρ Z [(v, s)] → K.rt s ρ → D.rt v H
  bk : ∀ σ H ρ Z, St1 F.K B σ H ρ Z [] → K.bk ρ → D.bk σ H
  ct : ∀ σ H ρ Z, St1 F.K B σ H ρ Z [] → K.ct ρ → D.ct σ H
  ex : ExOk F B K.ex
def LS (F : Fm) (t : TS) (w : WS) : Prop := ∀ B σ H ρ Z D K, St1 F.K B σ H ρ Z [] → EnOk F B D K → w K ρ → t D σ H
def RS (F : Fm) (st : Stmt) (w : WS) : Prop := ∃ t, (∀ i, PS (F.X i) st t) ∧ LS F t w
def RSs (F : Fm) (st : List Stmt) (w : WS) : Prop := ∃ t, (∀ i, PSs (F.X i) st t) ∧ LS F t w
/-- vs: the slots that the target stores -/
def LG (F : Fm) (g : TG) (w : WG) (vs : List Nat) : Prop := ∀ B σ H ρ Z v s Q Q', St1 F.K B σ H ρ Z [(v, s)] → w s ρ Q' → (∀ σ' H' ρ' Z', St1 F.K B σ' H' ρ' Z' [] → Le Z Z' → wipe σ' vs = wipe σ vs → Q' ρ' → Q σ' H') → g v σ H Q
def RG (F : Fm) (tg : Expr) (w : WG) (vs : List Nat) : Prop := ∃ g, (∀ i, PG (F.X i) tg g) ∧ LG F g w vs
def LGs (F : Fm) (g : TGs) (w : WGs) (vs : List Nat) : Prop := ∀ B σ H ρ Z us ds Q Q', St1 F.K B σ H ρ Z [] → RpL F.K Z us ds → w ds ρ Q' → (∀ σ' H' ρ' Z', St1 F.K B σ' H' ρ' Z' [] → Le Z Z' → wipe σ' vs = wipe σ vs → Q' ρ' → Q σ' H') → g us σ H Q
def RGs (F : Fm) (ts : List Expr) (w : WGs) (vs : List Nat) : Prop := ∃ g, (∀ i, PGs (F.X i) ts g) ∧ LGs F g w vs
/-- an iterator that yields the items, wherever Zc has stayed -/
def ItOk (K : PySem.W.Frag) (J : It) (Zc : Hp) (items : List D) : Prop :=
  (∀ i H, Le Zc H → i < items.length → J.go i H) ∧ (∀ H, Le Zc H → J.stop items.length H) ∧
  ∀ i d H x H', Le Zc H → items[i]? = some d → J.yld i H x H' → (H' = H ∧ Rp K Zc x d) ∨ ∃ p vs ds, H p = none ∧ H' = upd H p (.tup vs) ∧ x = .ref p ∧ d = .tup ds ∧ RpL K Zc vs ds
def LI (F : Fm) (t : TI) (w : WI) : Prop := ∀ B σ H ρ Z R R' E, St1 F.K B σ H ρ Z [] → ExOk F B E → w E ρ R' → (∀ J items H' ρ' Z', St1 F.K B σ H' ρ' Z' [] → Le Z Z' → ItOk F.K J Z' items → R' items ρ' → R J H') → t σ H R
def RI (F : Fm) (tg e : Expr) (w : WI) : Prop := ∃ t, (∀ i, PI (F.X i) tg e t) ∧ LI F t w

section
variable {F : Fm} {K : PySem.W.Frag} {B : Bs} {σ : L2.St} {H H' : Hp} {ρ : En} {Z Z' : Hp} {E : EX} {e a b : Expr} {pos : Pos}
theorem St1.base (S : St1 K B σ H ρ Z []) : ∃ B', St1 K B' σ H ρ Z [] ∧ (∀ σ' H' ρ' Z' tmp, St1 K B' σ' H' ρ' Z' tmp → St1 K B σ' H' ρ' Z' tmp ∧ Le Z Z') :=
  ⟨_, S.rebase, fun _ _ _ _ _ S' => S'.unbase S.zn S.zo⟩
theorem ExOk.of {B' : Bs} (X : ExOk F B E) (h : ∀ σ' H' ρ' Z' tmp, St1 F.K B' σ' H' ρ' Z' tmp → St1 F.K B σ' H' ρ' Z' tmp ∧ Le Z Z') : ExOk F B' E := fun σ' H' ρ' Z' C dx v d S r rp q => X σ' H' ρ' Z' C dx v d (h _ _ _ _ _ S).1 r rp q
/-- what stays is told by itself -/
theorem LE.of {t : TE} {w : WE} (h : LE' F t w) : LE F t w := fun B σ H ρ Z Q Q' E S X hw k => by
  obtain ⟨B', S', back⟩ := S.base
  exact h B' σ H ρ Z Q Q' E S' (X.of back) hw fun v s H' ρ' Z' S1 q => k v s H' ρ' Z' (back _ _ _ _ _ S1).1 (back _ _ _ _ _ S1).2 q
theorem fr_of {Q : D → Prop} {s : Sl} (h : s.fr Q) : ∃ d, (s = .fz d ∨ s = .ow d) ∧ Q d := by
  cases s with
  | fz d => exact ⟨d, .inl rfl, h⟩
  | ow d => exact ⟨d, .inr rfl, h⟩
  | _ => exact h.elim
/-- a value at hand becomes one that stays, and is let go -/
theorem St1.thaw1 {v : V} {s : Sl} {d : D} (S : St1 K B σ H ρ Z [(v, s)]) (hs : s = .fz d ∨ s = .ow d) : ∃ Z', Le Z Z' ∧ St1 K B σ H ρ Z' [] ∧ Rp K Z' v d := by
  obtain ⟨Z', k, S', r⟩ := St1.thaw (tmp := []) S hs
  exact ⟨Z', k, S'.drop, r⟩
/-- a value that stays is at hand -/
theorem St1.have {v : V} {d : D} (S : St1 K B σ H ρ Z []) (r : Rp K Z v d) : St1 K B σ H ρ Z [(v, .fz d)] := by
  refine ⟨S.len, S.sub, S.zn, S.zo, S.fx, S.dm, ?_⟩
  have R := S.rp
  simp only [tmps, List.map_nil, List.append_nil] at R
  exact Mv.snoc (B := B) (g := []) ⟨fun _ _ e => e, fun _ _ _ _ z _ => z, fun _ _ _ _ _ f => f, fun _ _ _ _ z => z, fun _ _ e _ _ _ => e, rfl⟩ R ⟨rfl, v, rfl, r⟩ (by simp) (fun _ m => by cases m)
theorem St1.alloc1 (S : St1 K B σ H ρ Z []) {p : Addr} {o : HO} {d : D} (hp : H p = none) (r : RpO K Z o d) : St1 K B σ (upd H p o) ρ Z [(.ref p, .ow d)] := St1.alloc (tmp := []) S hp r

/-- an operand that is read: a value that stays, or an object of ours -/
abbrev Rd1 (K : PySem.W.Frag) (Z H : Hp) (v : V) (d : D) : Prop := Rp K Z v d ∨ ∃ a o, v = .ref a ∧ H a = some o ∧ RpO K Z o d
theorem St1.slot (S : St1 K B σ H ρ Z []) {i : Nat} {s : Sl} (e : ρ[i]? = some s) : ∃ v g, σ[i]? = some v ∧ SlR K B Z H v g s := by
  obtain ⟨v, l, r, e1, e2, _⟩ := zip_focus S.len e
  have R := S.rp
  simp only [tmps, List.map_nil, List.append_nil, e2] at R
  obtain ⟨g, q, _, _⟩ := Reps.at R
  exact ⟨v, g, e1, q⟩
theorem St1.read (S : St1 K B σ H ρ Z []) {v : V} {r : Rr} {d : D} (h : RrOk K σ Z v r) (e : look ρ r = some d) : Rd1 K Z H v d := by
  cases r with
  | val d' =>
    have e : some d' = some d := e
    cases e
    exact .inl h
  | «at» i =>
    have e : (ρ[i]?).bind Sl.dat = some d := e
    cases e1 : ρ[i]? with
    | none => rw [e1] at e; cases e
    | some s =>
      rw [e1] at e
      have e : s.dat = some d := e
      obtain ⟨u, g, e2, q⟩ := S.slot e1
      have h : σ[i]? = some (some v) := h
      rw [e2] at h
      cases h
      cases s with
      | un => cases e
      | fz d' =>
        cases e
        obtain ⟨_, u, e3, r⟩ := q
        cases e3
        exact .inl r
      | ow d' =>
        cases e
        obtain ⟨a, o, e3, _, _, _, _, ha, ro⟩ := q
        cases e3
        exact .inr ⟨a, o, rfl, ha, ro⟩
      | io _ d' =>
        cases e
        obtain ⟨a, o, e3, _, _, _, ha, ro, _⟩ := q
        cases e3
        exact .inr ⟨a, o, rfl, ha, ro⟩
      | oo _ => cases e
theorem RrOk.le {v : V} {r : Rr} (h : RrOk K σ Z v r) (k : Le Z Z') : RrOk K σ Z' v r := by
  cases r with
  | val d => exact Rp.le k d v h
  | «at» i => exact h
theorem St1.reads (S : St1 K B σ H ρ Z []) : ∀ {vs : List V} {rs : List Rr} {ds : List D}, Paired (RrOk K σ Z) vs rs → looks ρ rs = some ds → Paired (Rd1 K Z H) vs ds
  | _, _, _, .nil, e => by
    have e : some [] = some _ := e
    cases e
    exact .nil
  | _, r :: rs, ds, .cons h t, e => by
    unfold looks at e
    cases e1 : look ρ r with
    | none => rw [e1] at e; cases e
    | some d =>
      cases e2 : looks ρ rs with
      | none => rw [e1, e2] at e; cases e
      | some ds' =>
        rw [e1, e2] at e
        cases e
        exact .cons (S.read h e1) (S.reads t e2)
theorem with1_of {o : Option D} {k : D → Prop} (h : with1 o k) : ∃ x, o = some x ∧ k x := by
  cases o with
  | none => exact h.elim
  | some x => exact ⟨x, rfl, h⟩
theorem with2_of {o p : Option D} {k : D → D → Prop} (h : with2 o p k) : ∃ x y, o = some x ∧ p = some y ∧ k x y := by
  cases o with
  | none => exact h.elim
  | some x =>
    cases p with
    | none => exact h.elim
    | some y => exact ⟨x, y, rfl, rfl, h⟩
theorem withN_of {o : Option (List D)} {k : List D → Prop} (h : withN o k) : ∃ x, o = some x ∧ k x := by
  cases o with
  | none => exact h.elim
  | some x => exact ⟨x, rfl, h⟩

/-! ### names, constants -/
theorem re_k {d : D} {v : V} (h : ∀ i, PE (F.X i) e (tC v)) (r : ∀ Z, Rp F.K Z v d) : RE F e (wC d) :=
  ⟨_, h, LE.of fun B σ H ρ Z Q Q' E S X hw k => k v _ H ρ Z (S.have (r Z)) hw⟩
theorem re_int {n : Int} {j : Nat} : RE F (.Constant (.int n) j pos) (wC (.int n)) := re_k (fun _ => pe_int) fun _ => .int n
theorem re_bl {n : Bool} {j : Nat} : RE F (.Constant (.bool n) j pos) (wC (.bl n)) := re_k (fun _ => pe_bl) fun _ => .bl n
theorem re_non {j : Nat} : RE F (.Constant .none j pos) (wC .non) := re_k (fun _ => pe_non) fun _ => .non
theorem re_str {x : Str} {j : Nat} : RE F (.Constant (.str x) j pos) (wC (.str x)) := re_k (fun _ => pe_str) fun _ => .str x
/-- a constant of the module -/
theorem re_gI {x : Str} {n : Int} {t : Tok} (hm : ∀ i, (F.X i).mg x = some (.int n t)) (hg : ∀ i, Gl (F.X i) x := by intro _; rfl) (hd : (x == ("__debug__" : Str)) = false := by decide) : RE F (.Name x pos) (wC (.int n)) := re_k (v := V.int n) (fun i => pe_glob (hg i) (hm i) ⟨t, rfl⟩ hd) fun _ => .int n
theorem re_gS {x y : Str} {t : Tok} (hm : ∀ i, (F.X i).mg x = some (.str y t)) (hg : ∀ i, Gl (F.X i) x := by intro _; rfl) (hd : (x == ("__debug__" : Str)) = false := by decide) : RE F (.Name x pos) (wC (.str y)) := re_k (v := V.str y) (fun i => pe_glob (hg i) (hm i) ⟨t, rfl⟩ hd) fun _ => .str y
/-- a def or class of the module, as a value -/
theorem re_gF {x : Str} {f : Addr} (hm : ∀ i, (F.X i).mg x = some (.ref f)) (hg : ∀ i, Gl (F.X i) x := by intro _; rfl) (hd : (x == ("__debug__" : Str)) = false := by decide) : RE F (.Name x pos) (wC (.fn f)) := re_k (v := V.ref f) (fun i => pe_glob (hg i) (hm i) rfl hd) fun _ => .fn
/-- the name in slot k -/
theorem re_n (k : Nat) {x : Str} (hN : ∀ i, (F.X i).N[k]? = some x := by intro _; rfl) (hv : ∀ i, Vis (F.X i).env.scope x := by intro _; first | exact Or.inl rfl | exact Or.inr (Or.inl rfl) | exact Or.inr (Or.inr rfl)) (hd : (x == ("__debug__" : Str)) = false := by decide)
    (hcd : (x == ("__classdict__" : Str)) = false := by decide) : RE F (.Name x pos) (wN k) := by
  refine ⟨tVar k, fun i => pe_var (hN i) (hv i) hd hcd, fun B σ H ρ Z Q Q' E S X hw q => ?_⟩
  unfold wN at hw
  cases e : ρ[k]? with
  | none => rw [e] at hw; exact hw.elim
  | some s =>
    rw [e] at hw
    have fin : ∀ {d : D}, (s = .fz d ∨ s = .ow d ∨ ∃ ds, s = .oo ds ∧ d = .lst (ds.map .lst)) → Q' (.fz d) (ρ.set k (.fz d)) → tVar k σ H Q := fun {d} hs hq => by
      obtain ⟨Z', v, le, e1, S', r⟩ := S.thawS e hs
      exact ⟨v, e1, q v _ H _ Z' (S'.have r) le hq⟩
    cases s with
    | fz d =>
      have hw : Q' (.fz d) ρ := hw
      exact fin (.inl rfl) (by rw [set_same e]; exact hw)
    | ow d => exact fin (.inr (.inl rfl)) hw
    | oo ds => exact fin (.inr (.inr ⟨ds, rfl, rfl⟩)) hw
    | un => exact (show False from hw).elim
    | io _ d => exact (show False from hw).elim
theorem rr_n (k : Nat) {x : Str} (hN : ∀ i, (F.X i).N[k]? = some x := by intro _; rfl) (hv : ∀ i, Vis (F.X i).env.scope x := by intro _; first | exact Or.inl rfl | exact Or.inr (Or.inl rfl) | exact Or.inr (Or.inr rfl)) (hd : (x == ("__debug__" : Str)) = false := by decide)
    (hcd : (x == ("__classdict__" : Str)) = false := by decide) : RR F (.Name x pos) (rN k) := by
  refine ⟨tVar k, fun i => pe_var (hN i) (hv i) hd hcd, fun B σ H ρ Z Q Q' E S X hw q => ?_⟩
  unfold rN at hw
  cases e : ρ[k]? with
  | none => rw [e] at hw; exact hw.elim
  | some s =>
    rw [e] at hw
    obtain ⟨u, g, e1, sr⟩ := S.slot e
    have fin : ∀ {v : V}, u = some v → Q' (.at k) ρ → tVar k σ H Q := fun {v} ev hq => by
      rw [ev] at e1
      exact ⟨v, e1, q v (.at k) H ρ Z S (fun _ _ z => z) e1 hq⟩
    cases s with
    | fz d =>
      obtain ⟨_, v, ev, _⟩ := sr
      exact fin ev hw
    | ow d =>
      obtain ⟨a, o, ev, _⟩ := sr
      exact fin ev hw
    | io _ d =>
      obtain ⟨a, o, ev, _⟩ := sr
      exact fin ev hw
    | un => exact (show False from hw).elim
    | oo ds => exact (show False from hw).elim
theorem rr_e {w : WE} (h : RE F e w) : RR F e (rE w) := by
  obtain ⟨t, h1, h2⟩ := h
  refine ⟨t, h1, fun B σ H ρ Z Q Q' E S X hw q => h2 B σ H ρ Z Q _ E S X hw fun v s H' ρ' Z' S' le hq => ?_⟩
  obtain ⟨d, hs, hq⟩ := fr_of hq
  obtain ⟨Z2, le2, S2, r⟩ := S'.thaw1 hs
  exact q v (.val d) H' ρ' Z2 S2 (le.trans' le2) r hq

/-! ### operators, by values -/
abbrev Rc (F : Fm) (B : Bs) (σ : L2.St) (ρ : En) (Q' : Sl → Prop) (Q : VK) : Prop := ∀ v s H' Z', St1 F.K B σ H' ρ Z' [(v, s)] → Q' s → Q v H'
def OpD (F : Fm) (f : Value → Value → Sem Value) (k : K2) : Prop := ∃ r : R2, (∀ i, OpR (F.X i) f r) ∧ ∀ B σ H ρ Z x y dx dy Q Q', St1 F.K B σ H ρ Z [] → Rd1 F.K Z H x dx → Rd1 F.K Z H y dy → k dx dy Q' → Rc F B σ ρ Q' Q → r x y H Q
def UnD (F : Fm) (f : Value → Sem Value) (k : K1) : Prop := ∃ r : V → Hp → VK → Prop, (∀ i, UnR (F.X i) f r) ∧ ∀ B σ H ρ Z x dx Q Q', St1 F.K B σ H ρ Z [] → Rd1 F.K Z H x dx → k dx Q' → Rc F B σ ρ Q' Q → r x H Q
def CallD (F : Fm) (f : Value) (k : KN) : Prop := ∃ r : List V → Hp → VK → Prop, (∀ i, CallR (F.X i) f r) ∧ ∀ B σ H ρ Z xs ds Q Q', St1 F.K B σ H ρ Z [] → Paired (Rd1 F.K Z H) xs ds → k ds Q' → Rc F B σ ρ Q' Q → r xs H Q
theorem rd1_le {v : V} {d : D} (S : St1 K B σ H ρ Z []) (h : Rd1 K Z H v d) : Rp K H v d := by
  rcases h with h | ⟨a, o, rfl, ha, r⟩
  · exact Rp.le S.sub d v h
  · exact (r.le S.sub).rp ha
/-- two operands -/
theorem two_ok {ta tb : TE} {wa wb : WR} (ha : LR F ta wa) (hb : LR F tb wb) {r : R2} {k : K2} (hr : ∀ B σ H ρ Z x y dx dy Q Q', St1 F.K B σ H ρ Z [] → Rd1 F.K Z H x dx → Rd1 F.K Z H y dy → k dx dy Q' → Rc F B σ ρ Q' Q → r x y H Q) : LE F (tOp r ta tb) (wOp k wa wb) := by
  refine LE.of fun B σ H ρ Z Q Q' E S X hw q => ha B σ H ρ Z _ _ E S X hw fun x r1 H1 ρ1 Z1 S1 le1 o1 hw => hb B σ H1 ρ1 Z1 _ _ E S1 X hw fun y r2 H2 ρ2 Z2 S2 le2 o2 hw => ?_
  obtain ⟨dx, dy, e1, e2, hk⟩ := with2_of hw
  exact hr B σ H2 ρ2 Z2 x y dx dy Q _ S2 (S2.read (o1.le le2) e1) (S2.read o2 e2) hk fun v s H' Z' S' hq => q v s H' ρ2 Z' S' hq
theorem re_op {op : Operator} {k : K2} {wa wb : WR} (ho : OpD F (binaryOp op) k) (ha : RR F a wa) (hb : RR F b wb) : RE F (.BinOp a op b pos) (wOp k wa wb) := by
  obtain ⟨r, h1, h2⟩ := ho
  obtain ⟨ta, a1, a2⟩ := ha
  obtain ⟨tb, b1, b2⟩ := hb
  exact ⟨_, fun i => pe_op (h1 i) (a1 i) (b1 i), two_ok a2 b2 h2⟩
theorem re_cmp {op : CmpOp} {k : K2} {wa wb : WR} (ho : OpD F (compareOp op) k) (ha : RR F a wa) (hb : RR F b wb) (hm : behindInMarks op b = false := by first | exact nobehind _ (by decide) (by decide) | rfl) : RE F (.Compare a [op] [b] pos) (wOp k wa wb) := by
  obtain ⟨r, h1, h2⟩ := ho
  obtain ⟨ta, a1, a2⟩ := ha
  obtain ⟨tb, b1, b2⟩ := hb
  exact ⟨_, fun i => pe_cmpR (h1 i) (a1 i) (b1 i) hm, two_ok a2 b2 h2⟩
theorem re_un {op : UnaryOp} {k : K1} {wa : WR} (ho : UnD F (unaryOp op) k) (ha : RR F a wa) : RE F (.UnaryOp op a pos) (wUn k wa) := by
  obtain ⟨r, h1, h2⟩ := ho
  obtain ⟨ta, a1, a2⟩ := ha
  refine ⟨_, fun i => pe_un (h1 i) (a1 i), LE.of fun B σ H ρ Z Q Q' E S X hw q => a2 B σ H ρ Z _ _ E S X hw fun x r1 H1 ρ1 Z1 S1 le1 o1 hw => ?_⟩
  obtain ⟨dx, e1, hk⟩ := with1_of hw
  exact h2 B σ H1 ρ1 Z1 x dx Q _ S1 (S1.read o1 e1) hk fun v s H' Z' S' hq => q v s H' ρ1 Z' S' hq
theorem OpD.or {f : Value → Value → Sem Value} {k k' : K2} (h : OpD F f k) (h' : OpD F f k') : OpD F f (fun x y Q => k x y Q ∨ k' x y Q) := by
  obtain ⟨r, h1, h2⟩ := h
  obtain ⟨r', h1', h2'⟩ := h'
  refine ⟨_, fun i => (h1 i).or (h1' i), fun B σ H ρ Z x y dx dy Q Q' S rx ry hk q => ?_⟩
  rcases hk with hk | hk
  · exact .inl (h2 B σ H ρ Z x y dx dy Q Q' S rx ry hk q)
  · exact .inr (h2' B σ H ρ Z x y dx dy Q Q' S rx ry hk q)
theorem OpD.imp {f : Value → Value → Sem Value} {k k' : K2} (h : OpD F f k) (i : ∀ x y Q, k' x y Q → k x y Q) : OpD F f k' := by
  obtain ⟨r, h1, h2⟩ := h
  exact ⟨r, h1, fun B σ H ρ Z x y dx dy Q Q' S rx ry hk q => h2 B σ H ρ Z x y dx dy Q Q' S rx ry (i _ _ _ hk) q⟩
theorem CallD.or {f : Value} {k k' : KN} (h : CallD F f k) (h' : CallD F f k') : CallD F f (fun x Q => k x Q ∨ k' x Q) := by
  obtain ⟨r, h1, h2⟩ := h
  obtain ⟨r', h1', h2'⟩ := h'
  refine ⟨_, fun i => (h1 i).or (h1' i), fun B σ H ρ Z xs ds Q Q' S rx hk q => ?_⟩
  rcases hk with hk | hk
  · exact .inl (h2 B σ H ρ Z xs ds Q Q' S rx hk q)
  · exact .inr (h2' B σ H ρ Z xs ds Q Q' S rx hk q)
theorem CallD.imp {f : Value} {k k' : KN} (h : CallD F f k) (i : ∀ x Q, k' x Q → k x Q) : CallD F f k' := by
  obtain ⟨r, h1, h2⟩ := h
  exact ⟨r, h1, fun B σ H ρ Z xs ds Q Q' S rx hk q => h2 B σ H ρ Z xs ds Q Q' S rx (i _ _ hk) q⟩

/-! ### argument lists -/
theorem rrs_nil : RRs F [] rsN := ⟨tNil, fun _ => pa_nil, fun B σ H ρ Z Q Q' E S X hw q => q [] [] H ρ Z S (fun _ _ z => z) .nil hw⟩
theorem rrs_cons {es : List Expr} {wa : WR} {wb : WRs} (ha : RR F e wa) (hb : RRs F es wb) (hs : ∀ i, starEach (e :: es) (F.X i).env = (false, eval e (F.X i).env) :: starEach es (F.X i).env := by intro _; rfl) : RRs F (e :: es) (rsC wa wb) := by
  obtain ⟨ta, a1, a2⟩ := ha
  obtain ⟨tb, b1, b2⟩ := hb
  refine ⟨_, fun i => pa_cons (a1 i) (b1 i) (hs i), fun B σ H ρ Z Q Q' E S X hw q => a2 B σ H ρ Z _ _ E S X hw fun x r1 H1 ρ1 Z1 S1 le1 o1 hw => b2 B σ H1 ρ1 Z1 _ _ E S1 X hw fun ys rs H2 ρ2 Z2 S2 le2 o2 hw => ?_⟩
  exact q (x :: ys) (r1 :: rs) H2 ρ2 Z2 S2 (le1.trans' le2) (.cons (o1.le le2) o2) hw
theorem rvs_nil : RVs F [] vsN := ⟨tNil, fun _ => pa_nil, fun B σ H ρ Z Q Q' E S X hw q => q [] [] H ρ Z S (fun _ _ z => z) .nil hw⟩
theorem rvs_cons {es : List Expr} {wa : WE} {wb : WVs} (ha : RE F e wa) (hb : RVs F es wb) (hs : ∀ i, starEach (e :: es) (F.X i).env = (false, eval e (F.X i).env) :: starEach es (F.X i).env := by intro _; rfl) : RVs F (e :: es) (vsC wa wb) := by
  obtain ⟨ta, a1, a2⟩ := ha
  obtain ⟨tb, b1, b2⟩ := hb
  refine ⟨_, fun i => pa_cons (a1 i) (b1 i) (hs i), fun B σ H ρ Z Q Q' E S X hw q => a2 B σ H ρ Z _ _ E S X hw fun x s H1 ρ1 Z1 S1 le1 hw => ?_⟩
  obtain ⟨d, hs, hw⟩ := fr_of hw
  obtain ⟨Z1', le1', S1', r⟩ := S1.thaw1 hs
  refine b2 B σ H1 ρ1 Z1' _ _ E S1' X hw fun ys ds H2 ρ2 Z2 S2 le2 o2 hw => ?_
  exact q (x :: ys) (d :: ds) H2 ρ2 Z2 S2 (le1.trans' (le1'.trans' le2)) (.cons (Rp.le le2 d x r) o2) hw
theorem line1000 : 1000 ≤ sizeLine := by rw [sizeLine_eq]; decide
theorem re_tup {es : List Expr} {x1 : Nat} {w : WVs} (h : RVs F es w) : RE F (.Tuple es x1 pos) (wTup w) := by
  obtain ⟨t, a1, a2⟩ := h
  refine ⟨_, fun i => pe_tup (a1 i), LE.of fun B σ H ρ Z Q Q' E S X hw q => a2 B σ H ρ Z _ _ E S X hw fun vs ds H1 ρ1 Z1 S1 le1 r ⟨hz, hw⟩ => ?_⟩
  refine ⟨by have := r.len; have := line1000; omega, fun p hp => ?_⟩
  obtain ⟨S2, le2⟩ := S1.allocZ (o := .tup vs) hp
  exact q _ _ _ _ _ (S2.have (.tup (.of upd_same) (RpL.le le2 _ _ r))) hw
theorem re_lst {es : List Expr} {w : WVs} (h : RVs F es w) : RE F (.List es pos) (wLst w) := by
  obtain ⟨t, a1, a2⟩ := h
  refine ⟨_, fun i => pe_lst (a1 i), LE.of fun B σ H ρ Z Q Q' E S X hw q => a2 B σ H ρ Z _ _ E S X hw fun vs ds H1 ρ1 Z1 S1 le1 r ⟨hz, hw⟩ => ?_⟩
  refine ⟨by have := r.len; have := line1000; omega, fun p hp => ?_⟩
  exact q _ _ _ _ _ (S1.alloc1 (o := .lst vs) (d := .lst ds) hp r) hw

/-! ### tests -/
theorem rt_v {w : WE} (h : RE F e w) (he : ∀ i whole, isTrue e (F.X i).env whole = (do let v ← whole; standAt e.pos; holding [v] (truthy v)) := by intro _ _; rfl) : RT F e (tV w) := by
  obtain ⟨t, a1, a2⟩ := h
  refine ⟨_, fun i => pt_val (a1 i) (he i), fun B σ H ρ Z Q Q' E S X hw q => a2 B σ H ρ Z _ _ E S X hw fun x s H1 ρ1 Z1 S1 le1 hw => ?_⟩
  cases s with
  | fz d =>
    cases d with
    | bl c =>
      have R := S1.rp
      obtain ⟨Z2, le2, S2, r⟩ := S1.thaw1 (.inl rfl)
      cases r
      exact ⟨c, rfl, q c H1 ρ1 Z2 S2 (le1.trans' le2) hw⟩
    | _ => exact (show False from hw).elim
  | _ => exact (show False from hw).elim
theorem rt_cmp {op : CmpOp} {k : K2} {wa wb : WR} (ho : OpD F (compareOp op) k) (ha : RR F a wa) (hb : RR F b wb) (hm : behindInMarks op b = false := by first | exact nobehind _ (by decide) (by decide) | rfl) : RT F (.Compare a [op] [b] pos) (tV (wOp k wa wb)) := by
  obtain ⟨r, h1, h2⟩ := ho
  obtain ⟨ta, a1, a2⟩ := ha
  obtain ⟨tb, b1, b2⟩ := hb
  refine ⟨_, fun i => pt_cmpR (h1 i) (a1 i) (b1 i) hm, fun B σ H ρ Z Q Q' E S X hw q => two_ok a2 b2 h2 B σ H ρ Z _ _ E S X hw fun x s H1 ρ1 Z1 S1 le1 hw => ?_⟩
  cases s with
  | fz d =>
    cases d with
    | bl c =>
      obtain ⟨Z2, le2, S2, r⟩ := S1.thaw1 (.inl rfl)
      cases r
      exact ⟨c, rfl, q c H1 ρ1 Z2 S2 (le1.trans' le2) hw⟩
    | _ => exact (show False from hw).elim
  | _ => exact (show False from hw).elim
theorem rt_not {t : WT} (h : RT F a t) : RT F (.UnaryOp .Not a pos) (tNot t) := by
  obtain ⟨t', a1, a2⟩ := h
  exact ⟨_, fun i => pt_not (a1 i), fun B σ H ρ Z Q Q' E S X hw q => a2 B σ H ρ Z _ _ E S X hw fun b H1 ρ1 Z1 S1 le1 hw => q _ H1 ρ1 Z1 S1 le1 hw⟩
theorem rw_t {t : WT} (h : RW F e t) : RT F e t := by
  obtain ⟨t', a1, a2⟩ := h
  exact ⟨t', fun i => (a1 i).pt, a2⟩
theorem rw_and1 {t : WT} (h : RT F a t) : RW F (.BoolOp .And [a] pos) t := by
  obtain ⟨t', a1, a2⟩ := h
  exact ⟨t', fun i => pw_and1 (a1 i), a2⟩
theorem rw_or1 {t : WT} (h : RT F a t) : RW F (.BoolOp .Or [a] pos) t := by
  obtain ⟨t', a1, a2⟩ := h
  exact ⟨t', fun i => pw_or1 (a1 i), a2⟩
theorem lt_and {t u : TT} {w x : WT} (a2 : LT F t w) (b2 : LT F u x) : LT F (L2.tAnd t u) (tAnd w x) := fun B σ H ρ Z Q Q' E S X hw q => a2 B σ H ρ Z _ _ E S X hw fun b H1 ρ1 Z1 S1 le1 hw => by
  cases b with
  | true => exact b2 B σ H1 ρ1 Z1 _ _ E S1 X hw fun b H2 ρ2 Z2 S2 le2 hw => q b H2 ρ2 Z2 S2 (le1.trans' le2) hw
  | false => exact q false H1 ρ1 Z1 S1 le1 hw
theorem lt_or {t u : TT} {w x : WT} (a2 : LT F t w) (b2 : LT F u x) : LT F (L2.tOr t u) (tOr w x) := fun B σ H ρ Z Q Q' E S X hw q => a2 B σ H ρ Z _ _ E S X hw fun b H1 ρ1 Z1 S1 le1 hw => by
  cases b with
  | false => exact b2 B σ H1 ρ1 Z1 _ _ E S1 X hw fun b H2 ρ2 Z2 S2 le2 hw => q b H2 ρ2 Z2 S2 (le1.trans' le2) hw
  | true => exact q true H1 ρ1 Z1 S1 le1 hw
theorem rw_and {t u : WT} {rest : List Expr} (h : RT F a t) (h' : RW F (.BoolOp .And (b :: rest) pos) u) : RW F (.BoolOp .And (a :: b :: rest) pos) (tAnd t u) := by
  obtain ⟨t', a1, a2⟩ := h
  obtain ⟨u', b1, b2⟩ := h'
  exact ⟨_, fun i => pw_and (a1 i) (b1 i), lt_and a2 b2⟩
theorem rw_or {t u : WT} {rest : List Expr} (h : RT F a t) (h' : RW F (.BoolOp .Or (b :: rest) pos) u) : RW F (.BoolOp .Or (a :: b :: rest) pos) (tOr t u) := by
  obtain ⟨t', a1, a2⟩ := h
  obtain ⟨u', b1, b2⟩ := h'
  exact ⟨_, fun i => pw_or (a1 i) (b1 i), lt_or a2 b2⟩
/-- and, or as values -/
theorem re_one {op : BoolOp} {w : WE} (h : RE F a w) : RE F (.BoolOp op [a] pos) w := by
  obtain ⟨t', a1, a2⟩ := h
  exact ⟨t', fun i => pe_one (a1 i), a2⟩
theorem re_and {w u : WE} {rest : List Expr} (h : RE F a w) (h' : RE F (.BoolOp .And (b :: rest) pos) u) : RE F (.BoolOp .And (a :: b :: rest) pos) (wAnd w u) := by
  obtain ⟨t', a1, a2⟩ := h
  obtain ⟨u', b1, b2⟩ := h'
  refine ⟨_, fun i => pe_and (a1 i) (b1 i), fun B σ H ρ Z Q Q' E S X hw q => a2 B σ H ρ Z _ _ E S X hw fun x s H1 ρ1 Z1 S1 le1 hw => ?_⟩
  cases s with
  | fz d =>
    cases d with
    | bl c =>
      obtain ⟨Z2, le2, S2, r⟩ := S1.thaw1 (.inl rfl)
      cases r
      refine ⟨c, rfl, ?_⟩
      cases c with
      | true => exact b2 B σ H1 ρ1 Z2 _ _ E S2 X hw fun v s H3 ρ3 Z3 S3 le3 hw => q v s H3 ρ3 Z3 S3 (le1.trans' (le2.trans' le3)) hw
      | false => exact q _ _ H1 ρ1 Z2 (S2.have (.bl false)) (le1.trans' le2) hw
    | _ => exact (show False from hw).elim
  | _ => exact (show False from hw).elim
theorem re_or {w u : WE} {rest : List Expr} (h : RE F a w) (h' : RE F (.BoolOp .Or (b :: rest) pos) u) : RE F (.BoolOp .Or (a :: b :: rest) pos) (wOr w u) := by
  obtain ⟨t', a1, a2⟩ := h
  obtain ⟨u', b1, b2⟩ := h'
  refine ⟨_, fun i => pe_or (a1 i) (b1 i), fun B σ H ρ Z Q Q' E S X hw q => a2 B σ H ρ Z _ _ E S X hw fun x s H1 ρ1 Z1 S1 le1 hw => ?_⟩
  cases s with
  | fz d =>
    cases d with
    | bl c =>
      obtain ⟨Z2, le2, S2, r⟩ := S1.thaw1 (.inl rfl)
      cases r
      refine ⟨c, rfl, ?_⟩
      cases c with
      | false => exact b2 B σ H1 ρ1 Z2 _ _ E S2 X hw fun v s H3 ρ3 Z3 S3 le3 hw => q v s H3 ρ3 Z3 S3 (le1.trans' (le2.trans' le3)) hw
      | true => exact q _ _ H1 ρ1 Z2 (S2.have (.bl true)) (le1.trans' le2) hw
    | _ => exact (show False from hw).elim
  | _ => exact (show False from hw).elim
theorem re_not {w : WE} (h : RE F a w) : RE F (.UnaryOp .Not a pos) (wNot w) := by
  obtain ⟨t', a1, a2⟩ := h
  refine ⟨_, fun i => pe_not (a1 i), fun B σ H ρ Z Q Q' E S X hw q => a2 B σ H ρ Z _ _ E S X hw fun x s H1 ρ1 Z1 S1 le1 hw => ?_⟩
  cases s with
  | fz d =>
    cases d with
    | bl c =>
      obtain ⟨Z2, le2, S2, r⟩ := S1.thaw1 (.inl rfl)
      cases r
      exact ⟨c, rfl, q _ _ H1 ρ1 Z2 (S2.have (.bl _)) (le1.trans' le2) hw⟩
    | _ => exact (show False from hw).elim
  | _ => exact (show False from hw).elim
theorem re_if {c : Expr} {t : WT} {w u : WE} (hc : RT F c t) (h : RE F a w) (h' : RE F b u) : RE F (.IfExp c a b pos) (wIf t w u) := by
  obtain ⟨tc, c1, c2⟩ := hc
  obtain ⟨t', a1, a2⟩ := h
  obtain ⟨u', b1, b2⟩ := h'
  refine ⟨_, fun i => pe_ifExp (c1 i) (a1 i) (b1 i), fun B σ H ρ Z Q Q' E S X hw q => c2 B σ H ρ Z _ _ E S X hw fun b H1 ρ1 Z1 S1 le1 hw => ?_⟩
  cases b with
  | true => exact a2 B σ H1 ρ1 Z1 _ _ E S1 X hw fun v s H3 ρ3 Z3 S3 le3 hw => q v s H3 ρ3 Z3 S3 (le1.trans' le3) hw
  | false => exact b2 B σ H1 ρ1 Z1 _ _ E S1 X hw fun v s H3 ρ3 Z3 S3 le3 hw => q v s H3 ρ3 Z3 S3 (le1.trans' le3) hw
end
end Pu

set_option Elab.async false
set_option linter.all false
set_option maxRecDepth 100000
/-! Pu, statements, targets, loops, comprehensions. -/
namespace Pu
open PySem L2

section
variable {F : Fm} {K : PySem.W.Frag} {B : Bs} {σ : L2.St} {H H' : Hp} {ρ : En} {Z Z' : Hp} {E : EX} {e a b : Expr} {pos : Pos}

/-! ### forgetting -/
/-- an entry is forgotten, or told anew by what stays -/
def Wk (K : PySem.W.Frag) (Z : Hp) (e e' : Ent) : Prop := e' = e ∨ e'.2 = .un ∨ ∃ u d, e' = (some u, .fz d) ∧ Rp K Z u d
theorem Reps.weak {es es' : List Ent} (h : Paired (Wk K Z) es es') (R : Reps K B Z H es) : Reps K B Z H es' := by
  obtain ⟨fps, p, nd⟩ := R
  have main : ∀ {es es' : List Ent}, Paired (Wk K Z) es es' → ∀ {fps : List (List Addr)}, Paired (fun (e : Ent) fp => SlR K B Z H e.1 fp e.2) es fps → fps.flatten.Nodup →
      ∃ fps', Paired (fun (e : Ent) fp => SlR K B Z H e.1 fp e.2) es' fps' ∧ fps'.flatten.Nodup ∧ ∀ a ∈ fps'.flatten, a ∈ fps.flatten := by
    intro es es' h
    induction h with
    | nil =>
      intro fps p nd
      cases p
      exact ⟨[], .nil, by simp, fun _ m => m⟩
    | cons w t ih =>
      intro fps p nd
      cases p with
      | cons q p =>
        rename_i e e' _ _ g gs
        rw [List.flatten_cons] at nd
        obtain ⟨n1, n2, d⟩ := nodup_app nd
        obtain ⟨gs', p', n', s'⟩ := ih p n2
        have emp : SlR K B Z H e'.1 [] e'.2 → ∃ fps', Paired (fun (e : Ent) fp => SlR K B Z H e.1 fp e.2) (e' :: _) fps' ∧ fps'.flatten.Nodup ∧ ∀ a ∈ fps'.flatten, a ∈ (g :: gs).flatten := fun q' =>
          ⟨[] :: gs', .cons q' p', by simpa using n', fun a m => by
            rw [List.flatten_cons] at m ⊢
            exact List.mem_append_right _ (s' a (by simpa using m))⟩
        rcases w with rfl | w | ⟨u, d', rfl, r⟩
        · refine ⟨g :: gs', .cons q p', ?_, fun a m => ?_⟩
          · rw [List.flatten_cons]
            exact List.nodup_append.mpr ⟨n1, n', fun a ha b hb ab => d a ha (s' a (ab ▸ hb))⟩
          · rw [List.flatten_cons] at m ⊢
            rcases List.mem_append.mp m with m | m
            · exact List.mem_append_left _ m
            · exact List.mem_append_right _ (s' a m)
        · exact emp (by rw [w]; rfl)
        · exact emp ⟨rfl, u, rfl, r⟩
  obtain ⟨fps', p', n', _⟩ := main h p nd
  exact ⟨fps', p', n'⟩
theorem pd_ix {α β : Type} {G : α → β → Prop} : ∀ {l : List α} {r : List β}, l.length = r.length → (∀ (i : Nat) a b, l[i]? = some a → r[i]? = some b → G a b) → Paired G l r
  | [], [], _, _ => .nil
  | a :: l, b :: r, hl, h => .cons (h 0 a b rfl rfl) (pd_ix (by simpa using hl) fun i x y e1 e2 => h (i + 1) x y (by simpa using e1) (by simpa using e2))
  | [], _ :: _, hl, _ => by simp at hl
  | _ :: _, [], hl, _ => by simp at hl
/-- other slots, slot by slot -/
theorem St1.weak {σ' : L2.St} {ρ' : En} {tmp : List (V × Sl)} (S : St1 K B σ H ρ Z tmp) (hs : σ'.length = σ.length) (hr : ρ'.length = ρ.length)
    (h : ∀ (i : Nat) v v' s s', σ[i]? = some v → σ'[i]? = some v' → ρ[i]? = some s → ρ'[i]? = some s' → Wk K Z (v, s) (v', s')) : St1 K B σ' H ρ' Z tmp := by
  refine ⟨by rw [hs, hr]; exact S.len, S.sub, S.zn, S.zo, S.fx, S.dm, S.rp.weak (pd_app ?_ ?_)⟩
  · have hl := S.len
    refine pd_ix (by simp [hs, hr]) fun i x y e1 e2 => ?_
    obtain ⟨v, s⟩ := x
    obtain ⟨v', s'⟩ := y
    rw [List.getElem?_zip_eq_some] at e1 e2
    exact h i v v' s s' e1.1 e2.1 e1.2 e2.2
  · exact pd_ix rfl fun i x y e1 e2 => by rw [e1] at e2; cases e2; exact .inl rfl
theorem wipeE_len : ∀ {ρ : En} (vs : List Nat), (wipeE ρ vs).length = ρ.length
  | _, [] => rfl
  | ρ, v :: vs => by unfold wipeE; rw [List.length_set, wipeE_len vs]
theorem backE_len {ρ0 : En} : ∀ {ρ : En} (vs : List Nat), (backE ρ0 ρ vs).length = ρ.length
  | _, [] => rfl
  | ρ, v :: vs => by unfold backE; rw [List.length_set, backE_len vs]
theorem wipe_in {i : Nat} : ∀ {vs : List Nat}, i ∈ vs → i < σ.length → (wipe σ vs)[i]? = some none
  | v :: vs, m, hl => by
    unfold wipe
    by_cases hv : v = i
    · subst hv
      exact List.getElem?_set_self (by rw [wipe_length]; exact hl)
    · rw [List.getElem?_set_ne hv]
      rcases List.mem_cons.mp m with z | z
      · exact absurd z.symm hv
      · exact wipe_in z hl
theorem wipeE_in {i : Nat} : ∀ {ρ : En} {vs : List Nat}, i ∈ vs → i < ρ.length → (wipeE ρ vs)[i]? = some .un
  | ρ, v :: vs, m, hl => by
    unfold wipeE
    by_cases hv : v = i
    · subst hv
      exact List.getElem?_set_self (by rw [wipeE_len]; exact hl)
    · rw [List.getElem?_set_ne hv]
      rcases List.mem_cons.mp m with z | z
      · exact absurd z.symm hv
      · exact wipeE_in z hl
theorem wipeE_out {i : Nat} : ∀ {ρ : En} {vs : List Nat}, i ∉ vs → (wipeE ρ vs)[i]? = ρ[i]?
  | _, [], _ => rfl
  | ρ, v :: vs, h => by
    have h1 : v ≠ i := fun e => h (by rw [e]; exact List.mem_cons_self)
    unfold wipeE
    rw [List.getElem?_set_ne h1]
    exact wipeE_out fun m => h (List.mem_cons_of_mem _ m)
theorem backE_in {ρ0 : En} {i : Nat} : ∀ {ρ : En} {vs : List Nat}, i ∈ vs → i < ρ.length → (backE ρ0 ρ vs)[i]? = some ((ρ0[i]?).getD .un).keep
  | ρ, v :: vs, m, hl => by
    unfold backE
    by_cases hv : v = i
    · subst hv
      exact List.getElem?_set_self (by rw [backE_len]; exact hl)
    · rw [List.getElem?_set_ne hv]
      rcases List.mem_cons.mp m with z | z
      · exact absurd z.symm hv
      · exact backE_in z hl
theorem backE_out {ρ0 : En} {i : Nat} : ∀ {ρ : En} {vs : List Nat}, i ∉ vs → (backE ρ0 ρ vs)[i]? = ρ[i]?
  | _, [], _ => rfl
  | ρ, v :: vs, h => by
    have h1 : v ≠ i := fun e => h (by rw [e]; exact List.mem_cons_self)
    unfold backE
    rw [List.getElem?_set_ne h1]
    exact backE_out fun m => h (List.mem_cons_of_mem _ m)
theorem lt_of_get {α : Type} {l : List α} {i : Nat} {x : α} (e : l[i]? = some x) : i < l.length := (List.getElem?_eq_some_iff.mp e).1
theorem St1.wipe {tmp : List (V × Sl)} (S : St1 K B σ H ρ Z tmp) (vs : List Nat) : St1 K B (L2.wipe σ vs) H (wipeE ρ vs) Z tmp := by
  refine S.weak (wipe_length σ vs) (wipeE_len vs) fun i v v' s s' e1 e2 e3 e4 => ?_
  by_cases m : i ∈ vs
  · rw [wipeE_in m (lt_of_get e3)] at e4
    cases e4
    exact .inr (.inl rfl)
  · rw [L2.wipe_out m, e1] at e2
    rw [wipeE_out m, e3] at e4
    cases e2; cases e4
    exact .inl rfl
/-- back from a block -/
theorem St1.unwipe {ρ0 : En} {Z0 H0 : Hp} {vs : List Nat} {tmp : List (V × Sl)} (S0 : St1 K B σ H0 ρ0 Z0 []) (S : St1 K B (L2.wipe σ vs) H ρ Z tmp) (k : Le Z0 Z) : St1 K B σ H (backE ρ0 ρ vs) Z tmp := by
  refine S.weak (wipe_length σ vs).symm (backE_len vs) fun i v v' s s' e1 e2 e3 e4 => ?_
  by_cases m : i ∈ vs
  · rw [backE_in m (lt_of_get e3)] at e4
    cases e4
    cases e5 : ρ0[i]? with
    | none => exact .inr (.inl rfl)
    | some s0 =>
      cases s0 with
      | fz d =>
        obtain ⟨v0, g, e6, q⟩ := S0.slot e5
        obtain ⟨_, u, e7, r⟩ := q
        rw [e2] at e6
        cases e6
        exact .inr (.inr ⟨u, d, by rw [e7]; rfl, Rp.le k d u r⟩)
      | _ => exact .inr (.inl rfl)
  · rw [L2.wipe_out m, e2] at e1
    rw [backE_out m, e3] at e4
    cases e1; cases e4
    exact .inl rfl
theorem wipe_wipe (vs : List Nat) : L2.wipe (L2.wipe σ vs) vs = L2.wipe σ vs := by
  apply List.ext_getElem?
  intro i
  by_cases m : i ∈ vs
  · by_cases hl : i < σ.length
    · rw [wipe_in m (by rw [wipe_length]; exact hl), wipe_in m hl]
    · rw [List.getElem?_eq_none (by rw [wipe_length, wipe_length]; omega), List.getElem?_eq_none (by rw [wipe_length]; omega)]
  · rw [L2.wipe_out m]
theorem wipe_set {i : Nat} {vs : List Nat} {x : Option V} (m : i ∈ vs) : L2.wipe (σ.set i x) vs = L2.wipe σ vs := by
  apply List.ext_getElem?
  intro j
  by_cases mj : j ∈ vs
  · by_cases hl : j < σ.length
    · rw [wipe_in mj (by rw [List.length_set]; exact hl), wipe_in mj hl]
    · rw [List.getElem?_eq_none (by rw [wipe_length, List.length_set]; omega), List.getElem?_eq_none (by rw [wipe_length]; omega)]
  · rw [L2.wipe_out mj, L2.wipe_out mj, List.getElem?_set_ne (show i ≠ j from fun e => mj (by rw [← e]; exact m))]
/-- an own object at hand is written -/
theorem St1.writeT {a : Addr} {d : D} (S : St1 K B σ H ρ Z [(.ref a, .ow d)]) : ∃ o, H a = some o ∧ RpO K Z o d ∧ ∀ o' d', RpO K Z o' d' → St1 K B σ (upd H a o') ρ Z [(.ref a, .ow d')] := by
  have R := S.rp
  have R : Reps K B Z H (σ.zip ρ ++ (some (V.ref a), Sl.ow d) :: []) := R
  obtain ⟨g, q, nd, put⟩ := Reps.at R
  obtain ⟨a', o, e, rfl, z, f, h0, ha, ro⟩ := q
  have e : some (V.ref a) = some (V.ref a') := e
  cases e
  refine ⟨o, ha, ro, fun o' d' r' => ⟨S.len, fun b u eb => upd_some (S.sub _ _ eb) (ne_of_none eb z), S.zn, S.zo, fun b u eb => upd_some (S.fx _ _ eb) (ne_of_none eb f), fun b eb => ?_, ?_⟩⟩
  · by_cases ap : b = a
    · rw [ap, upd_same]; simp
    · rw [upd_ne ap]; exact S.dm b eb
  · exact put B Z _ (some (.ref a), .ow d') [a] ⟨fun _ _ e => e, fun _ _ _ _ z _ => z, fun _ _ _ _ _ f => f, fun _ _ _ _ z => z, fun b u eb nb _ _ => upd_some eb (by simpa using nb), rfl⟩ ⟨a, o', rfl, rfl, z, f, h0, upd_same, r'⟩ (by simp) (fun b m => .inl m)

/-! ### targets -/
theorem rg_n (k : Nat) {x : Str} {vs : List Nat} (m : k ∈ vs) (hN : ∀ i, (F.X i).N[k]? = some x := by intro _; rfl) (hx : ∀ i, Loc (F.X i).env.scope x := by intro _; first | exact Or.inl rfl | exact Or.inr rfl)
    (hf : ∀ i, (F.X i).fn x = true ∨ (F.X i).env.scope.names.lookup x = some .local := by intro _; first | exact Or.inl rfl | exact Or.inr rfl) : RG F (.Name x pos) (gN k) vs :=
  ⟨gName k, fun i => pg_name (F.nd i) (hN i) (hx i) (hf i), fun B σ H ρ Z v s Q Q' S hw q => q _ H _ Z S.store (fun _ _ z => z) (wipe_set m) hw⟩
theorem rgs_nil {vs : List Nat} : RGs F [] gsN vs :=
  ⟨gNil, fun i => pgs_nil, fun B σ H ρ Z us ds Q Q' S r hw q => by
    cases ds with
    | nil => cases r; exact ⟨rfl, q σ H ρ Z S (fun _ _ z => z) rfl hw⟩
    | cons _ _ => exact (show False from hw).elim⟩
theorem rgs_cons {es : List Expr} {g : WG} {gs : WGs} {vs : List Nat} (h1 : RG F e g vs) (h2 : RGs F es gs vs) (hs : ∀ i, (assignEach (e :: es) (F.X i).env).map (·.2) = assign e (F.X i).env :: (assignEach es (F.X i).env).map (·.2) := by intro _; rfl) : RGs F (e :: es) (gsC g gs) vs := by
  obtain ⟨t, a1, a2⟩ := h1
  obtain ⟨u, b1, b2⟩ := h2
  refine ⟨_, fun i => pgs_cons (a1 i) (b1 i) (hs i), fun B σ H ρ Z us ds Q Q' S r hw q => ?_⟩
  cases ds with
  | nil => exact (show False from hw).elim
  | cons d ds =>
    cases r with
    | cons r rs =>
      refine ⟨_, _, rfl, a2 B σ H ρ Z _ (.fz d) _ _ (S.have r) hw fun σ1 H1 ρ1 Z1 S1 le1 w1 hw => ?_⟩
      exact b2 B σ1 H1 ρ1 Z1 _ _ _ _ S1 (RpL.le le1 _ _ rs) hw fun σ2 H2 ρ2 Z2 S2 le2 w2 hw => q σ2 H2 ρ2 Z2 S2 (le1.trans' le2) (w2.trans w1) hw
theorem rg_t {es : List Expr} {kk n : Nat} {gs : WGs} {vs : List Nat} (h : RGs F es gs vs) (hl : ∀ B σ H ρ Z us ds Q, St1 F.K B σ H ρ Z [] → RpL F.K Z us ds → gs ds ρ Q → us.length = n) (hn : ∀ i, (assignEach es (F.X i).env).length = n := by intro _; rfl) (hst : ∀ i, (assignEach es (F.X i).env).findIdx? (·.1) = none := by intro _; rfl) :
    RG F (.Tuple es kk pos) (gT gs) vs := by
  obtain ⟨t, a1, a2⟩ := h
  refine ⟨gTup F.K n t, fun i => by rw [← F.hK i]; exact pg_tup (F.calm i) (a1 i) (hn i) (hst i), fun B σ H ρ Z v s Q Q' S hw q => ?_⟩
  cases s with
  | fz d =>
    cases d with
    | tup ds =>
      obtain ⟨Z1, le1, S1, r⟩ := S.thaw1 (.inl rfl)
      cases r with
      | tup hz rl => exact ⟨_, _, rfl, .inl (rd_le hz S1.sub), hl _ _ _ _ _ _ _ _ S1 rl hw, a2 B σ H ρ Z1 _ _ _ _ S1 rl hw fun σ2 H2 ρ2 Z2 S2 le2 w2 hw => q σ2 H2 ρ2 Z2 S2 (le1.trans' le2) w2 hw⟩
    | _ => exact (show False from hw).elim
  | _ => exact (show False from hw).elim
theorem gs_len0 {us : List V} {ds : List D} {Q : En → Prop} (r : RpL K Z us ds) (h : gsN ds ρ Q) : us.length = 0 := by
  cases ds with
  | nil => cases r; rfl
  | cons _ _ => exact (show False from h).elim
/-- (a, b) of names -/
theorem rg_t2 {e1 e2 : Expr} {kk i j : Nat} {vs : List Nat} (h : RGs F [e1, e2] (gsC (gN i) (gsC (gN j) gsN)) vs) (hn : ∀ i, (assignEach [e1, e2] (F.X i).env).length = 2 := by intro _; rfl) (hst : ∀ i, (assignEach [e1, e2] (F.X i).env).findIdx? (·.1) = none := by intro _; rfl) :
    RG F (.Tuple [e1, e2] kk pos) (gT (gsC (gN i) (gsC (gN j) gsN))) vs := by
  refine rg_t h (fun B σ H ρ Z us ds Q S r hw => ?_) hn hst
  cases r with
  | nil => exact (show False from hw).elim
  | cons _ r =>
    cases r with
    | nil => exact (show False from hw).elim
    | cons _ r =>
      cases r with
      | nil => rfl
      | cons _ _ => exact (show False from hw).elim
theorem rg_t3 {e1 e2 e3 : Expr} {kk i j k : Nat} {vs : List Nat} (h : RGs F [e1, e2, e3] (gsC (gN i) (gsC (gN j) (gsC (gN k) gsN))) vs) (hn : ∀ i, (assignEach [e1, e2, e3] (F.X i).env).length = 3 := by intro _; rfl) (hst : ∀ i, (assignEach [e1, e2, e3] (F.X i).env).findIdx? (·.1) = none := by intro _; rfl) :
    RG F (.Tuple [e1, e2, e3] kk pos) (gT (gsC (gN i) (gsC (gN j) (gsC (gN k) gsN)))) vs := by
  refine rg_t h (fun B σ H ρ Z us ds Q S r hw => ?_) hn hst
  cases r with
  | nil => exact (show False from hw).elim
  | cons _ r =>
    cases r with
    | nil => exact (show False from hw).elim
    | cons _ r =>
      cases r with
      | nil => exact (show False from hw).elim
      | cons _ r =>
        cases r with
        | nil => rfl
        | cons _ _ => exact (show False from hw).elim

/-! ### statements -/
variable {st : Stmt} {rest body : List Stmt}
theorem EnOk.of {B' : Bs} {D : Ends} {C : EndD} (h : EnOk F B D C) (k : ∀ σ' H' ρ' Z' tmp, St1 F.K B' σ' H' ρ' Z' tmp → St1 F.K B σ' H' ρ' Z' tmp ∧ Le Z Z') : EnOk F B' D C :=
  ⟨fun σ H ρ Z S q => h.nx σ H ρ Z (k _ _ _ _ _ S).1 q, fun σ v s H ρ Z S q => h.rt σ v s H ρ Z (k _ _ _ _ _ S).1 q, fun σ H ρ Z S q => h.bk σ H ρ Z (k _ _ _ _ _ S).1 q, fun σ H ρ Z S q => h.ct σ H ρ Z (k _ _ _ _ _ S).1 q, h.ex.of k⟩
theorem rss_nil : RSs F [] wPass := ⟨tNext, fun _ => pss_nil, fun B σ H ρ Z D C S O hw => O.nx σ H ρ Z S hw⟩
theorem rss_one {w : WS} (h : RS F st w) : RSs F [st] w := by
  obtain ⟨t, a1, a2⟩ := h
  exact ⟨t, fun i => pss_one (a1 i), a2⟩
theorem rss_cons {w u : WS} (h : RS F st w) (h' : RSs F rest u) : RSs F (st :: rest) (wSeq w u) := by
  obtain ⟨t, a1, a2⟩ := h
  obtain ⟨t', b1, b2⟩ := h'
  exact ⟨_, fun i => pss_cons (a1 i) (b1 i), fun B σ H ρ Z D C S O hw => a2 B σ H ρ Z _ { C with nx := u C } S ⟨fun σ1 H1 ρ1 Z1 S1 q => b2 B σ1 H1 ρ1 Z1 D C S1 O q, O.rt, O.bk, O.ct, O.ex⟩ hw⟩
theorem rs_never : RS F st wNever := ⟨_, fun _ => ps_never, fun B σ H ρ Z D C S O hw => (show False from hw).elim⟩
theorem rss_never : RSs F rest wNever := ⟨_, fun _ => pss_never, fun B σ H ρ Z D C S O hw => (show False from hw).elim⟩
theorem rs_pass : RS F (.Pass pos) wPass := ⟨tNext, fun _ => ps_pass, fun B σ H ρ Z D C S O hw => O.nx σ H ρ Z S hw⟩
theorem rs_brk : RS F (.Break pos) wBrk := ⟨tBreak, fun _ => ps_break, fun B σ H ρ Z D C S O hw => O.bk σ H ρ Z S hw⟩
theorem rs_cnt : RS F (.Continue pos) wCnt := ⟨tCont, fun _ => ps_continue, fun B σ H ρ Z D C S O hw => O.ct σ H ρ Z S hw⟩
theorem rs_drop {w : WE} (h : RE F e w) (hs : ∀ i, swapsWith e none pos.line (F.X i).env = pure false := by intro _; rfl) : RS F (.Expr e pos) (wDrop w) := by
  obtain ⟨t, a1, a2⟩ := h
  exact ⟨_, fun i => ps_expr (a1 i) (hs i), fun B σ H ρ Z D C S O hw => a2 B σ H ρ Z _ _ _ S O.ex hw fun v s H1 ρ1 Z1 S1 _ hw => O.nx σ H1 ρ1 Z1 S1.drop hw⟩
theorem rs_ret {w : WE} (h : RE F e w) : RS F (.Return (some e) pos) (wRet w) := by
  obtain ⟨t, a1, a2⟩ := h
  exact ⟨_, fun i => ps_ret (a1 i), fun B σ H ρ Z D C S O hw => a2 B σ H ρ Z _ _ _ S O.ex hw fun v s H1 ρ1 Z1 S1 _ hw => O.rt σ v s H1 ρ1 Z1 S1 hw⟩
theorem rs_retN : RS F (.Return none pos) wRetN := ⟨_, fun _ => ps_retN, fun B σ H ρ Z D C S O hw => O.rt σ _ _ H ρ Z (S.have .non) hw⟩
theorem rs_if {c : Expr} {l1 l2 : List Stmt} {t : WT} {w u : WS} (hc : RT F c t) (h : RSs F l1 w) (h' : RSs F l2 u) : RS F (.If c l1 l2 pos) (wIfS t w u) := by
  obtain ⟨tc, c1, c2⟩ := hc
  obtain ⟨t1, a1, a2⟩ := h
  obtain ⟨t2, b1, b2⟩ := h'
  refine ⟨_, fun i => ps_if (c1 i) (a1 i) (b1 i), fun B σ H ρ Z D C S O hw => c2 B σ H ρ Z _ _ _ S O.ex hw fun b H1 ρ1 Z1 S1 _ hw => ?_⟩
  cases b with
  | true => exact a2 B σ H1 ρ1 Z1 D C S1 O hw
  | false => exact b2 B σ H1 ρ1 Z1 D C S1 O hw
/-- name = value -/
theorem rs_set (k : Nat) {x : Str} {w : WE} {pos' : Pos} (h : RE F e w) (hN : ∀ i, (F.X i).N[k]? = some x := by intro _; rfl) (hx : ∀ i, Loc (F.X i).env.scope x := by intro _; first | exact Or.inl rfl | exact Or.inr rfl)
    (hs : ∀ i, swapsWith e (some (.Name x pos')) pos.line (F.X i).env = pure false := by intro _; rfl) (hf : ∀ i, (F.X i).fn x = true ∨ (F.X i).env.scope.names.lookup x = some .local := by intro _; first | exact Or.inl rfl | exact Or.inr rfl) :
    RS F (.Assign [.Name x pos'] e pos) (wSet k w) := by
  obtain ⟨t, a1, a2⟩ := h
  exact ⟨_, fun i => ps_set (F.nd i) (hN i) (hx i) (a1 i) (hs i) (hf i), fun B σ H ρ Z D C S O hw => a2 B σ H ρ Z _ _ _ S O.ex hw fun v s H1 ρ1 Z1 S1 _ hw => O.nx _ H1 _ Z1 S1.store hw⟩
theorem rs_asg {tg : Expr} {w : WE} {g : WG} {vs : List Nat} (h : RE F e w) (hg : RG F tg g vs) (hs : ∀ i, swapsWithSole [tg] e pos.line (F.X i).env = pure false := by intro _; rfl) (hw : ∀ i, swappedStores [tg] e (F.X i).env = pure none := by intro _; rfl)
    (h1 : ∀ i, (assignEach [tg] (F.X i).env).map (·.2) = [assign tg (F.X i).env] := by intro _; rfl) : RS F (.Assign [tg] e pos) (wAsg g w) := by
  obtain ⟨t, a1, a2⟩ := h
  obtain ⟨u, b1, b2⟩ := hg
  exact ⟨_, fun i => ps_asg (a1 i) (b1 i) (hs i) (hw i) (h1 i), fun B σ H ρ Z D C S O hw => a2 B σ H ρ Z _ _ _ S O.ex hw fun v s H1 ρ1 Z1 S1 _ hw => b2 B σ H1 ρ1 Z1 v s _ _ S1 hw fun σ2 H2 ρ2 Z2 S2 _ _ hw => O.nx σ2 H2 ρ2 Z2 S2 hw⟩

/-! ### several values at hand -/
def LHs (F : Fm) (t : TA) (w : WHs) (n : Nat) : Prop := ∀ B σ H ρ Z Q Q' E, St1 F.K B σ H ρ Z [] → ExOk F B E → w E ρ Q' → (∀ vs ss H' ρ' Z', vs.length = n → ss.length = n → St1 F.K B σ H' ρ' Z' (vs.zip ss) → Q' ss ρ' → Q vs H') → t σ H Q
def RHs (F : Fm) (es : List Expr) (w : WHs) (n : Nat) : Prop := ∃ t, (∀ i, PA (F.X i) es t) ∧ LHs F t w n
theorem vl_of {Q : Prop} {s : Sl} (h : s.vl Q) : ((∃ d, s = .fz d) ∨ ∃ d, s = .ow d) ∧ Q := by
  cases s with
  | fz d => exact ⟨.inl ⟨d, rfl⟩, h⟩
  | ow d => exact ⟨.inr ⟨d, rfl⟩, h⟩
  | _ => exact (show False from h).elim
theorem rhs_nil : RHs F [] hsN 0 := ⟨tNil, fun _ => pa_nil, fun B σ H ρ Z Q Q' E S X hw q => q [] [] H ρ Z rfl rfl S hw⟩
theorem rhs_cons {es : List Expr} {wa : WE} {wb : WHs} {n : Nat} (ha : RE F e wa) (hb : RHs F es wb n) (hs : ∀ i, starEach (e :: es) (F.X i).env = (false, eval e (F.X i).env) :: starEach es (F.X i).env := by intro _; rfl) : RHs F (e :: es) (hsC wa wb) (n + 1) := by
  obtain ⟨ta, a1, a2⟩ := ha
  obtain ⟨tb, b1, b2⟩ := hb
  refine ⟨_, fun i => pa_cons (a1 i) (b1 i) (hs i), fun B σ H ρ Z Q Q' E S X hw q => a2 B σ H ρ Z _ _ E S X hw fun x s H1 ρ1 Z1 S1 le1 hw => ?_⟩
  obtain ⟨hv, hw⟩ := vl_of hw
  obtain ⟨B', S', back⟩ := S1.hold hv
  have X' : ExOk F B' E := fun σ' H' ρ' Z' C dx v d S r rp qq => X σ' H' ρ' Z' C dx v d (back _ _ _ _ _ S).1.drop r rp qq
  refine b2 B' σ H1 ρ1 Z1 _ _ E S' X' hw fun vs ss H2 ρ2 Z2 h1 h2 S2 hw => ?_
  exact q (x :: vs) (s :: ss) H2 ρ2 Z2 (by simp [h1]) (by simp [h2]) (back _ _ _ _ _ S2).1 hw
/-- stored from the left -/
def setV (σ : L2.St) : List Nat → List V → L2.St
  | i :: is, v :: vs => setV (σ.set i (some v)) is vs
  | _, _ => σ
theorem St1.storeAll : ∀ {is : List Nat} {vs : List V} {ss : List Sl} {σ : L2.St} {ρ : En}, vs.length = is.length → ss.length = is.length → St1 K B σ H ρ Z (vs.zip ss) → St1 K B (setV σ is vs) H (setAll ρ is ss) Z []
  | [], [], [], _, _, _, _, S => S
  | i :: is, v :: vs, s :: ss, _, _, h1, h2, S => St1.storeAll (is := is) (by simpa using h1) (by simpa using h2) (St1.store (i := i) S)
  | [], _ :: _, _, _, _, h1, _, _ => by simp at h1
  | [], [], _ :: _, _, _, _, h2, _ => by simp at h2
  | _ :: _, [], _, _, _, h1, _, _ => by simp at h1
  | _ :: _, _ :: _, [], _, _, _, h2, _ => by simp at h2
theorem rs_par {i j : Nat} {x y : Str} {px py pt : Pos} {kt k2 : Nat} {pt2 : Pos} {w : WHs} (h : RHs F [a, b] w 2) (hi : ∀ k, (F.X k).N[i]? = some x := by intro _; rfl) (hj : ∀ k, (F.X k).N[j]? = some y := by intro _; rfl) (hij : i ≠ j := by decide)
    (hx : ∀ k, (F.X k).env.scope.names.lookup x = some .local := by intro _; rfl) (hy : ∀ k, (F.X k).env.scope.names.lookup y = some .local := by intro _; rfl)
    (hw : ∀ k, swappedStores [.Tuple [.Name x px, .Name y py] kt pt] (.Tuple [a, b] k2 pt2) (F.X k).env = pure (some [x, y]) := by intro _; rfl)
    (hs : ∀ k, swapsWithSole [.Tuple [.Name x px, .Name y py] kt pt] (.Tuple [a, b] k2 pt2) pos.line (F.X k).env = pure false := by intro _; rfl) : RS F (.Assign [.Tuple [.Name x px, .Name y py] kt pt] (.Tuple [a, b] k2 pt2) pos) (wPar [i, j] w) := by
  obtain ⟨t, a1, a2⟩ := h
  refine ⟨_, fun k => ps_par (F.calm k) (F.nd k) (hi k) (hj k) hij (hx k) (hy k) (a1 k) (hw k) (hs k), fun B σ H ρ Z D C S O hw => a2 B σ H ρ Z _ _ _ S O.ex hw fun vs ss H1 ρ1 Z1 h1 h2 S1 hw => ?_⟩
  obtain ⟨v, u, rfl⟩ : ∃ v u, vs = [v, u] := by
    match vs, h1 with
    | [v, u], _ => exact ⟨v, u, rfl⟩
  exact ⟨v, u, rfl, O.nx _ H1 _ Z1 (St1.storeAll (is := [i, j]) rfl (by rw [h2]; rfl) S1) hw⟩
theorem rs_par3 {i j l : Nat} {x y z : Str} {c : Expr} {px py pz pt : Pos} {kt k2 : Nat} {pt2 : Pos} {w : WHs} (h : RHs F [a, b, c] w 3) (hi : ∀ k, (F.X k).N[i]? = some x := by intro _; rfl) (hj : ∀ k, (F.X k).N[j]? = some y := by intro _; rfl) (hl : ∀ k, (F.X k).N[l]? = some z := by intro _; rfl) (hij : i ≠ j := by decide) (hil : i ≠ l := by decide) (hjl : j ≠ l := by decide)
    (hx : ∀ k, (F.X k).env.scope.names.lookup x = some .local := by intro _; rfl) (hy : ∀ k, (F.X k).env.scope.names.lookup y = some .local := by intro _; rfl) (hz : ∀ k, (F.X k).env.scope.names.lookup z = some .local := by intro _; rfl)
    (hw : ∀ k, swappedStores [.Tuple [.Name x px, .Name y py, .Name z pz] kt pt] (.Tuple [a, b, c] k2 pt2) (F.X k).env = pure (some [x, y, z]) := by intro _; rfl)
    (hs : ∀ k, swapsWithSole [.Tuple [.Name x px, .Name y py, .Name z pz] kt pt] (.Tuple [a, b, c] k2 pt2) pos.line (F.X k).env = pure false := by intro _; rfl) : RS F (.Assign [.Tuple [.Name x px, .Name y py, .Name z pz] kt pt] (.Tuple [a, b, c] k2 pt2) pos) (wPar [i, j, l] w) := by
  obtain ⟨t, a1, a2⟩ := h
  refine ⟨_, fun k => ps_par3 (F.calm k) (F.nd k) (hi k) (hj k) (hl k) hij hil hjl (hx k) (hy k) (hz k) (a1 k) (hw k) (hs k), fun B σ H ρ Z D C S O hw => a2 B σ H ρ Z _ _ _ S O.ex hw fun vs ss H1 ρ1 Z1 h1 h2 S1 hw => ?_⟩
  obtain ⟨v, u, u', rfl⟩ : ∃ v u u', vs = [v, u, u'] := by
    match vs, h1 with
    | [v, u, u'], _ => exact ⟨v, u, u', rfl⟩
  exact ⟨v, u, u', rfl, O.nx _ H1 _ Z1 (St1.storeAll (is := [i, j, l]) rfl (by rw [h2]; rfl) S1) hw⟩
/-- names that hold cells: through a tuple -/
def namesG (k : Nat → Nat) : List Nat → TGs
  | [] => gNil
  | i :: is => gCons (gName i) (namesG k is)
theorem namesG_ok {k : Nat → Nat} : ∀ {is : List Nat} {vs : List V} {σ : L2.St} {Q : L2.St → Hp → Prop}, vs.length = is.length → Q (setV σ is vs) H → namesG k is vs σ H Q
  | [], [], _, _, _, q => ⟨rfl, q⟩
  | i :: is, v :: vs, σ, Q, h, q => ⟨v, vs, rfl, namesG_ok (is := is) (by simpa using h) q⟩
  | [], _ :: _, _, _, h, _ => by simp at h
  | _ :: _, [], _, _, h, _ => by simp at h
theorem rs_parC {is : List Nat} {ts es : List Expr} {pt : Pos} {kt k2 n : Nat} {pt2 : Pos} {w : WHs} (h : RHs F es w n) (hg : ∀ i, PGs (F.X i) ts (namesG id is)) (hn : is.length = n := by rfl)
    (hl : ∀ i, (assignEach ts (F.X i).env).length = n := by intro _; rfl) (hst : ∀ i, (assignEach ts (F.X i).env).findIdx? (·.1) = none := by intro _; rfl)
    (hs : ∀ i, swapsWithSole [.Tuple ts kt pt] (.Tuple es k2 pt2) pos.line (F.X i).env = pure false := by intro _; rfl) (hw : ∀ i, swappedStores [.Tuple ts kt pt] (.Tuple es k2 pt2) (F.X i).env = pure none := by intro _; rfl)
    (h1 : ∀ i, (assignEach [.Tuple ts kt pt] (F.X i).env).map (·.2) = [assign (.Tuple ts kt pt) (F.X i).env] := by intro _; rfl) (hz : n ≤ 1000 := by decide) : RS F (.Assign [.Tuple ts kt pt] (.Tuple es k2 pt2) pos) (wPar is w) := by
  obtain ⟨t, a1, a2⟩ := h
  refine ⟨tAsg (tTup t) (gTup F.K n (namesG id is)), fun i => by rw [← F.hK i]; exact ps_asg (pe_tup (a1 i)) (pg_tup (F.calm i) (hg i) (hl i) (hst i)) (hs i) (hw i) (h1 i), fun B σ H ρ Z D C S O hw => a2 B σ H ρ Z _ _ _ S O.ex hw fun vs ss H1 ρ1 Z1 h1 h2 S1 hw => ?_⟩
  refine ⟨by have := line1000; omega, fun p hp => ?_⟩
  obtain ⟨S2, _⟩ := S1.allocZ (o := .tup vs) hp
  exact ⟨p, vs, rfl, .of upd_same, h1, namesG_ok (by rw [h1, hn]) (O.nx _ _ _ _ (St1.storeAll (is := is) (by rw [h1, hn]) (by rw [h2, hn]) S2) hw)⟩

/-! ### loops -/
theorem rs_for {tg iter : Expr} {wi : WI} {g : WG} {wb : WS} {vs : List Nat} (hi : RI F tg iter wi) (hg : RG F tg g vs) (hb : RSs F body wb) (hs : ∀ i x, foldedSetIterable iter (F.X i).env x = pure x := by intro _ _; rfl) : RS F (.For tg iter body [] pos) (wFor wi g wb) := by
  obtain ⟨ti, i1, i2⟩ := hi
  obtain ⟨t, a1, a2⟩ := hg
  obtain ⟨u, b1, b2⟩ := hb
  refine ⟨_, fun i => ps_for (F.po i) (F.calm i) (i1 i) (a1 i) (b1 i) (hs i), fun B σ H ρ Z D C S O hw => i2 B σ H ρ Z _ _ _ S O.ex hw fun J items H1 ρ1 Z1 S1 _ it ⟨W, w0, ws, we⟩ => ?_⟩
  obtain ⟨B', S', back⟩ := S1.base
  have O' := O.of back
  refine ⟨fun i m σ H => ∃ ρ Z, St1 F.K B' σ H ρ Z [] ∧ i ≤ items.length ∧ m = items.length - i ∧ W i ρ, ⟨_, ρ1, Z1, S', Nat.zero_le _, rfl, w0⟩, ?_⟩
  rintro i m σ2 H2 ⟨ρ2, Z2, S2, hi, rfl, hW⟩
  have le2 := (back _ _ _ _ _ S2).2
  have leH : Le Z1 H2 := le2.trans' S2.sub
  by_cases hlt : i < items.length
  · refine .inr ⟨it.1 i H2 leH hlt, fun σ' H' => ∃ ρ' Z', St1 F.K B' σ' H' ρ' Z' [] ∧ W (i + 1) ρ', fun σ' H' ⟨ρ', Z', S', hW'⟩ => ⟨items.length - (i + 1), by omega, ρ', Z', S', hlt, rfl, hW'⟩, fun x H' y => ?_⟩
    have e : items[i]? = some items[i] := by simp [hlt]
    have go : ∀ {H3 : Hp} {Z3 : Hp}, St1 F.K B' σ2 H3 ρ2 Z3 [] → Rp F.K Z3 x items[i] → t x σ2 H3 fun σ4 H4 => u { D with nx := fun σ' H' => ∃ ρ' Z', St1 F.K B' σ' H' ρ' Z' [] ∧ W (i + 1) ρ', ct := fun σ' H' => ∃ ρ' Z', St1 F.K B' σ' H' ρ' Z' [] ∧ W (i + 1) ρ', bk := D.nx } σ4 H4 := fun {H3 Z3} S3 r =>
      a2 B' σ2 H3 ρ2 Z3 x _ _ _ (S3.have r) (ws i _ ρ2 e hW) fun σ4 H4 ρ4 Z4 S4 _ _ hw => b2 B' σ4 H4 ρ4 Z4 _ { C with nx := W (i + 1), ct := W (i + 1), bk := C.nx } S4 ⟨fun σ H ρ Z S q => ⟨ρ, Z, S, q⟩, O'.rt, fun σ H ρ Z S q => O'.nx σ H ρ Z S q, fun σ H ρ Z S q => ⟨ρ, Z, S, q⟩, O'.ex⟩ hw
    rcases it.2.2 i _ H2 x H' leH e y with ⟨rfl, r⟩ | ⟨p, vs, ds, hp, rfl, rfl, ed, rl⟩
    · exact go S2 (Rp.le le2 _ _ r)
    · obtain ⟨S3, le3⟩ := S2.allocZ (o := .tup vs) hp
      exact go S3 (by rw [ed]; exact .tup (.of upd_same) (RpL.le (le2.trans' le3) _ _ rl))
  · have e : i = items.length := by omega
    subst e
    exact .inl ⟨it.2.1 H2 leH, O'.nx σ2 H2 ρ2 Z2 S2 (we ρ2 hW)⟩
theorem rs_while {c : Expr} {tc : WT} {wb : WS} (hc : RT F c tc) (hb : RSs F body wb) : RS F (.While c body [] pos) (wWhile tc wb) := by
  obtain ⟨t, a1, a2⟩ := hc
  obtain ⟨u, b1, b2⟩ := hb
  refine ⟨_, fun i => ps_while (F.po i) (a1 i) (b1 i), fun B σ H ρ Z D C S O ⟨W, ⟨m0, w0⟩, ws⟩ => ?_⟩
  refine ⟨fun m σ H => ∃ ρ Z, St1 F.K B σ H ρ Z [] ∧ W m ρ, ⟨m0, ρ, Z, S, w0⟩, ?_⟩
  rintro m σ2 H2 ⟨ρ2, Z2, S2, hW⟩
  refine a2 B σ2 H2 ρ2 Z2 _ _ _ S2 O.ex (ws m ρ2 hW) fun b H3 ρ3 Z3 S3 _ hw => ?_
  cases b with
  | true =>
    refine ⟨fun σ' H' => ∃ ρ' Z', St1 F.K B σ' H' ρ' Z' [] ∧ ∃ m', m' < m ∧ W m' ρ', fun σ' H' ⟨ρ', Z', S', m', hm, hW'⟩ => ⟨m', hm, ρ', Z', S', hW'⟩, ?_⟩
    exact b2 B σ2 H3 ρ3 Z3 _ { C with nx := fun ρ' => ∃ m', m' < m ∧ W m' ρ', ct := fun ρ' => ∃ m', m' < m ∧ W m' ρ', bk := C.nx } S3 ⟨fun σ H ρ Z S q => ⟨ρ, Z, S, q⟩, O.rt, fun σ H ρ Z S q => O.nx σ H ρ Z S q, fun σ H ρ Z S q => ⟨ρ, Z, S, q⟩, O.ex⟩ hw
  | false => exact O.nx σ2 H3 ρ3 Z3 S3 hw

/-! ### comprehensions -/
/-- the block's contexts -/
def Fm.blk (F : Fm) (scope : Scope) : Fm where
  ι := F.ι × Shared × Hp × Addr × List (Str × Addr) × List Addr
  X := fun p => (F.X p.1).blk p.2.1 p.2.2.1 scope (compEnvC scope p.2.2.2.2.1 p.2.2.2.1 (F.X p.1).env) p.2.2.2.2.2
  K := F.K
  W := fun _ _ _ _ => False
  hK := fun p => F.hK p.1
  calm := fun p => F.calm p.1
  nd := fun p => F.nd p.1
  un := fun p => F.un p.1
  gd := fun p => F.gd p.1
  po := fun _ => PassesOwn.never
  tk := fun _ => takes0
  w := F.w
  hw := fun p => F.hw p.1
def RTs (F : Fm) (es : List Expr) (w : WT) : Prop := ∃ t, (∀ i, PTs (F.X i) es t) ∧ LT F t w
theorem rts_nil : RTs F [] tYes := ⟨L2.tYes, fun _ => pts_nil, fun B σ H ρ Z Q Q' E S X hw q => q true H ρ Z S (fun _ _ z => z) hw⟩
theorem rts_one {t : WT} (h : RT F e t) : RTs F [e] t := by
  obtain ⟨t', a1, a2⟩ := h
  exact ⟨t', fun i => pts_one (a1 i), a2⟩
theorem no_ex {B : Bs} : ExOk (Fm.blk F scope) B noEX := fun _ _ _ _ _ _ _ _ _ _ _ q => q.elim
theorem lc_ok {scope : Scope} {wi : WI} {g : WG} {wt : WT} {we : WE} {vs : List Nat} {ti : TI} {tg : TG} {tt : TT} {te : TE} (hi : LI F ti wi) (hg : LG (F.blk scope) tg g vs) (ht : LT (F.blk scope) tt wt) (he : LE (F.blk scope) te we) : LE F (tLc ti tg tt te vs) (wLc wi g wt we vs) := by
  refine LE.of fun B σ H ρ Z Q Q' E S X hw q => hi B σ H ρ Z _ _ E S X hw fun J items H1 ρ1 Z1 S1 le1 it ⟨W, w0, ws, wz⟩ D hD => ?_
  obtain ⟨B', S', back⟩ := S1.base
  have SD : St1 F.K B' σ (upd H1 D (.lst [])) ρ1 Z1 [(.ref D, .ow (.lst []))] := S'.alloc1 (o := .lst []) (d := .lst []) hD .nil
  refine ⟨fun i m H => ∃ acc ρ Z, St1 F.K B' (wipe σ vs) H ρ Z [(.ref D, .ow (.lst acc))] ∧ i ≤ items.length ∧ m = items.length - i ∧ W i acc ρ, ⟨_, [], _, Z1, SD.wipe vs, Nat.zero_le _, rfl, w0⟩, ?_⟩
  rintro i m H2 ⟨acc, ρ2, Z2, S2, hi, rfl, hW⟩
  have le2 := (back _ _ _ _ _ S2).2
  have leH : Le Z1 H2 := le2.trans' S2.sub
  by_cases hlt : i < items.length
  · refine .inr ⟨it.1 i H2 leH hlt, fun H' => ∃ acc' ρ' Z', St1 F.K B' (wipe σ vs) H' ρ' Z' [(.ref D, .ow (.lst acc'))] ∧ W (i + 1) acc' ρ', fun H' ⟨acc', ρ', Z', S', hW'⟩ => ⟨items.length - (i + 1), by omega, acc', ρ', Z', S', hlt, rfl, hW'⟩, fun x H' y => ?_⟩
    have e : items[i]? = some items[i] := by simp [hlt]
    obtain ⟨B3, S3, back3⟩ := S2.hold (.inr ⟨_, rfl⟩)
    have go : ∀ {H3 : Hp} {Z3 : Hp}, St1 F.K B3 (wipe σ vs) H3 ρ2 Z3 [] → Rp F.K Z3 x items[i] → tg x (wipe σ vs) H3 fun σ2 H2 => wipe σ2 vs = wipe σ vs ∧ tt σ2 H2 fun b H3 =>
        if b = true then te σ2 H3 fun y H4 => ∃ acc, H4 D = some (.lst acc) ∧ acc.length < sizeLine ∧ ∃ acc' ρ' Z', St1 F.K B' (wipe σ vs) (upd H4 D (.lst (acc ++ [y]))) ρ' Z' [(.ref D, .ow (.lst acc'))] ∧ W (i + 1) acc' ρ' else ∃ acc' ρ' Z', St1 F.K B' (wipe σ vs) H3 ρ' Z' [(.ref D, .ow (.lst acc'))] ∧ W (i + 1) acc' ρ' := fun {H3 Z3} S3 r => by
      refine hg B3 (wipe σ vs) H3 ρ2 Z3 x _ _ _ (S3.have r) (ws i _ acc ρ2 e hW) fun σ4 H4 ρ4 Z4 S4 _ w4 hw => ?_
      rw [wipe_wipe] at w4
      refine ⟨w4, ht B3 σ4 H4 ρ4 Z4 _ _ noEX S4 no_ex hw fun b H5 ρ5 Z5 S5 _ hw => ?_⟩
      cases b with
      | false =>
        have S6 := S5.wipe vs
        rw [w4] at S6
        exact ⟨acc, _, _, (back3 _ _ _ _ _ S6).1, hw⟩
      | true =>
        refine he B3 σ4 H5 ρ5 Z5 _ _ noEX S5 no_ex hw fun y s H6 ρ6 Z6 S6 _ hw => ?_
        obtain ⟨d, hs, hz, hw⟩ := fr_of hw
        obtain ⟨Z7, _, S7, r7⟩ := S6.thaw1 hs
        have S8 := S7.wipe vs
        rw [w4] at S8
        have S9 := (back3 _ _ _ _ _ S8).1
        obtain ⟨o, ho, ro, put⟩ := S9.writeT
        cases o with
        | lst accV =>
          have ro : RpL F.K Z7 accV acc := ro
          refine ⟨accV, ho, by rw [ro.len]; exact hz, acc ++ [d], _, Z7, put (.lst (accV ++ [y])) (.lst (acc ++ [d])) (ro.snoc r7), hw⟩
        | _ => exact (show False from ro).elim
    rcases it.2.2 i _ H2 x H' leH e y with ⟨rfl, r⟩ | ⟨p, us, ds, hp, rfl, rfl, ed, rl⟩
    · exact go S3 (Rp.le le2 _ _ r)
    · obtain ⟨S4, le4⟩ := S3.allocZ (o := .tup us) hp
      exact go S4 (by rw [ed]; exact .tup (.of upd_same) (RpL.le (le2.trans' le4) _ _ rl))
  · have e : i = items.length := by omega
    subst e
    refine .inl ⟨it.2.1 H2 leH, ?_⟩
    exact q _ _ H2 _ Z2 (S1.unwipe (back _ _ _ _ _ S2).1 le2) (wz acc ρ2 hW)
theorem re_lc {elt tg iter : Expr} {ifs : List Expr} {scope : Scope} {own : List (Str × Nat)} {wi : WI} {g : WG} {wt : WT} {we : WE} (hi : RI F tg iter wi) (ok : ∀ i, BlkOk (F.X i).N (F.X i).env.scope scope own) (hg : RG (F.blk scope) tg g (own.map (·.2))) (ht : RTs (F.blk scope) ifs wt) (he : RE (F.blk scope) elt we)
    (hs : ∀ i x, foldedSetIterable iter (F.X i).env x = pure x := by intro _ _; rfl) : RE F (.ListComp elt [⟨tg, iter, ifs, 0⟩] scope pos) (wLc wi g wt we (own.map (·.2))) := by
  obtain ⟨ti, i1, i2⟩ := hi
  obtain ⟨tg', g1, g2⟩ := hg
  obtain ⟨tt, t1, t2⟩ := ht
  obtain ⟨te, e1, e2⟩ := he
  exact ⟨_, fun i => pe_lc (F.calm i) (F.nd i) (i1 i) (ok i) (fun s H C cl fp => g1 (i, s, H, C, cl, fp)) (fun s H C cl fp => t1 (i, s, H, C, cl, fp)) (fun s H C cl fp => e1 (i, s, H, C, cl, fp)) (hs i), lc_ok i2 g2 t2 e2⟩
theorem rs_lc (k : Nat) {y : Str} {py spos : Pos} {elt tg iter : Expr} {ifs : List Expr} {scope : Scope} {own : List (Str × Nat)} {wi : WI} {g : WG} {wt : WT} {we : WE} (hi : RI F tg iter wi) (ok : ∀ i, BlkOk (F.X i).N (F.X i).env.scope scope own) (hg : RG (F.blk scope) tg g (own.map (·.2))) (ht : RTs (F.blk scope) ifs wt) (he : RE (F.blk scope) elt we)
    (hsw : ∀ i, swapsWith (.ListComp elt [⟨tg, iter, ifs, 0⟩] scope pos) (some (.Name y py)) spos.line (F.X i).env = pure true) (hy : ∀ i, (F.X i).N[k]? = some y := by intro _; rfl) (hyl : ∀ i, (F.X i).env.scope.names.lookup y = some .local := by intro _; rfl)
    (hs : ∀ i x, foldedSetIterable iter (F.X i).env x = pure x := by intro _ _; rfl) : RS F (.Assign [.Name y py] (.ListComp elt [⟨tg, iter, ifs, 0⟩] scope pos) spos) (wSet k (wLc wi g wt we (own.map (·.2)))) := by
  obtain ⟨ti, i1, i2⟩ := hi
  obtain ⟨tg', g1, g2⟩ := hg
  obtain ⟨tt, t1, t2⟩ := ht
  obtain ⟨te, e1, e2⟩ := he
  exact ⟨_, fun i => ps_setLc (F.calm i) (F.nd i) (hy i) (hyl i) (hsw i) (i1 i) (ok i) (fun s H C cl fp => g1 (i, s, H, C, cl, fp)) (fun s H C cl fp => t1 (i, s, H, C, cl, fp)) (fun s H C cl fp => e1 (i, s, H, C, cl, fp)) (hs i),
    fun B σ H ρ Z D C S O hw => lc_ok i2 g2 t2 e2 B σ H ρ Z _ _ _ S O.ex hw fun v s H1 ρ1 Z1 S1 _ hw => O.nx _ H1 _ Z1 S1.store hw⟩
end
end Pu

set_option Elab.async false
set_option linter.all false
set_option maxRecDepth 100000
/-! Pu, defs and calls of them. A def is entered where no guard against endless reprs stands (repr of a list asks this). -/
namespace Pu
open PySem L2 PySem.Spec PyProof.Rows

/-- a def keeps a promise -/
structure FnG (P : Program) (w : World) (K : PySem.W.Frag) (mg : Str → Option Value) (base : Heap) (k : Nat) (f : Addr) (fd : FuncData) (ps : List Str) (sp : Sp) : Prop where
  len : ∀ vs H Q E, sp vs H Q E → vs.length = ps.length
  go : ∀ (A : Around) (outer : List Env) (s : Shared) (H : Hp) (args : Args) (us : List Value) (vs : List V) (Q : VK) (E : XK),
    Room k A → A.guards = some [] → Env0 P w K mg base A outer s H → BindsTo s fd args (ps.zip us) → Vals vs us → sp vs H Q E →
    codeAny (model P w) A (.call (.ref f) args) (CR (L2.CX P w) outer P w H s Q E) s
section
variable {P : Program} {w : World} {K : PySem.W.Frag} {mg : Str → Option Value} {base : Heap} {k j : Nat} {f : Addr} {fd : FuncData} {ps : List Str} {sp : Sp}
theorem FnG.up (G : FnG P w K mg base j f fd ps sp) (h : j ≤ k) : FnG P w K mg base k f fd ps sp :=
  ⟨G.len, fun A outer s H args us vs Q E hr => G.go A outer s H args us vs Q E (hr.mono h)⟩
theorem FnG.ofOk (G : FnOk P w K mg base (L2.CX P w) k f fd ps sp) : FnG P w K mg base k f fd ps sp :=
  ⟨G.len, fun A outer s H args us vs Q E hr _ => G.run A outer s H args us vs Q E hr⟩
theorem FnG.imp {sp' : Sp} (G : FnG P w K mg base k f fd ps sp) (h : ∀ vs H Q E, sp' vs H Q E → sp vs H Q E) : FnG P w K mg base k f fd ps sp' :=
  ⟨fun vs H Q E q => G.len vs H Q E (h _ _ _ _ q), fun A outer s H args us vs Q E hr hg e0 hb hv q => G.go A outer s H args us vs Q E hr hg e0 hb hv (h _ _ _ _ q)⟩

theorem gd_deeper {A : Around} {env : Env} (h : A.guards = some []) : (A.deeper env).guards = some [] := by
  first
    | exact h
    | simpa [Around.deeper] using h

/-- a def by its body -/
theorem FnG.def {x qual : Str} {st : Stmt} {N : List Str} (T : Fun K x qual st f fd) (S : FnScope N ps (defScope st)) (len : ∀ vs H Q E, sp vs H Q E → vs.length = ps.length)
    (body : ∀ (cdv : Value) (A : Around) (outer : List Env) (s : Shared) (H : Hp) (vs : List V) (Q : VK) (E : XK), Room k (A.deeper (envOfC qual (defScope st) s.heap.objs.size f cdv)) → (A.deeper (envOfC qual (defScope st) s.heap.objs.size f cdv)).guards = some [] → sp vs H Q E →
      ∃ t, PSs (cxOf (L2.CX P w) P w K mg base N qual (defScope st) f cdv A outer s H E) (defBody st) t ∧ t { nx := fun _ H' => Q .non H', rt := Q } (L2.start N vs) H) : FnG P w K mg base (k + 1) f fd ps sp := by
  obtain ⟨oc, od, kV, doc, pm, an, cdv, ct, osl, rfl, lk, hcd⟩ := T.ex
  refine ⟨len, ?_⟩
  intro A outer s H args us vs Q E hr hgd e0 hb r hsp
  have lens := len _ _ _ _ hsp
  have here : K.In s.heap := e0.mod.kin.keeps (fun b o e => (e0.bs b o e).1)
  have lim : s.heap.NoLimit := e0.mod.nolimit.keeps (fun b o e => (e0.bs b o e).1)
  refine codeAny_call_function hr.depth (here _ _ lk) rfl S.co S.gen rfl
    (PySem.W.codeRec_of here hcd) (hb _ _ _ _ ?_)
  refine wpAny_newFunctionEnv_cells S.kind (fun y hy => ?_) (fun env he s1 x => ?_)
  · rcases S.par y.1 (List.of_mem_zip hy).1 with q | q
    · exact Or.inl q
    · exact Or.inr ⟨q, PySem.W.cellsFrom_some _ _ _ (Or.inl q)⟩
  · subst he
    refine ⟨lim.keeps x.toInCall.keep, codeAny_func ?_⟩
    obtain ⟨t, ht, hq⟩ := body cdv A outer s H vs Q E (hr.deeper _) (gd_deeper hgd) hsp
    have I := inv_start (CX := L2.CX P w) (E := E) S hr.hd e0 lens r x
    refine wpAny_mono (ht.run [] s1 (L2.start N vs) H _ I hq) (fun fl s' hs => ?_) (fun _ _ z => z)
    cases fl with
    | ret u =>
      obtain ⟨v, σ', H', J, rv, q⟩ := hs
      exact ⟨v, H', J.os, J.bare, J.base, J.hok, rv, q⟩
    | next =>
      obtain ⟨σ', H', J, q⟩ := hs
      exact ⟨V.non, H', J.os, J.bare, J.base, J.hok, rfl, q⟩
    | brk => exact hs.elim fun _ z => z.elim fun _ z => (show False from z.2).elim
    | cont => exact hs.elim fun _ z => z.elim fun _ z => (show False from z.2).elim
end

/-! ### promises over data -/
/-- arguments as they are handed in; as: the addresses lent -/
inductive ArgsOk (K : PySem.W.Frag) (Z H : Hp) : List Md → List V → List D → List Addr → Prop
  | nil : ArgsOk K Z H [] [] [] []
  | fz {ms vs ds as v d} : Rp K Z v d → ArgsOk K Z H ms vs ds as → ArgsOk K Z H (.fz :: ms) (v :: vs) (d :: ds) as
  | io {ms vs ds as} {a : Addr} {o : HO} {d : D} : Z a = none → H a = some o → RpO K Z o d → ArgsOk K Z H ms vs ds as → ArgsOk K Z H (.io :: ms) (.ref a :: vs) (d :: ds) (a :: as)
/-- .. as they are left -/
inductive OutsOk (K : PySem.W.Frag) (Z H : Hp) : List Md → List V → List D → Prop
  | nil : OutsOk K Z H [] [] []
  | fz {ms vs ds v d} : OutsOk K Z H ms vs ds → OutsOk K Z H (.fz :: ms) (v :: vs) (d :: ds)
  | io {ms vs ds} {a : Addr} {o : HO} {d : D} : Z a = none → H a = some o → RpO K Z o d → OutsOk K Z H ms vs ds → OutsOk K Z H (.io :: ms) (.ref a :: vs) (d :: ds)
/-- what a call leaves -/
structure Post (K : PySem.W.Frag) (Z H : Hp) (ms : List Md) (vs : List V) (as : List Addr) (Z' H' : Hp) (outs : List D) : Prop where
  le : Le Z Z'
  sub : Le Z' H'
  new : ∀ a o, Z' a = some o → Z a = some o ∨ H a = none
  keep : ∀ b o, H b = some o → b ∉ as → H' b = some o
  dom : ∀ b, H b ≠ none → H' b ≠ none
  out : OutsOk K Z' H' ms vs outs
/-- a value that comes back -/
def ResOk (K : PySem.W.Frag) (H Z' H' : Hp) (v : V) : Sl → Prop
  | .fz d => Rp K Z' v d
  | .ow d => ∃ a o, v = .ref a ∧ H a = none ∧ Z' a = none ∧ H' a = some o ∧ RpO K Z' o d
  | _ => False
def spL (K : PySem.W.Frag) (ms : List Md) (sp : DSp) : Sp := fun vs H Q E => ∃ Z ds as Q0 E0, Le Z H ∧ ArgsOk K Z H ms vs ds as ∧ as.Nodup ∧ sp ds Q0 E0 ∧
  (∀ s outs, Q0 s outs → ∀ v H' Z', Post K Z H ms vs as Z' H' outs → ResOk K H Z' H' v s → Q v H') ∧
  (∀ C d outs, E0 C d outs → ∀ v dx H' Z', Post K Z H ms vs as Z' H' outs → H' dx = some (.xd [("value", v)]) → Rp K Z' v d → E (.ref C) (some dx) H')
theorem ArgsOk.len {K : PySem.W.Frag} {Z H : Hp} {ms : List Md} {vs : List V} {ds : List D} {as : List Addr} (h : ArgsOk K Z H ms vs ds as) : vs.length = ms.length ∧ ds.length = ms.length := by
  induction h with
  | nil => exact ⟨rfl, rfl⟩
  | fz _ _ ih => exact ⟨congrArg (· + 1) ih.1, congrArg (· + 1) ih.2⟩
  | io _ _ _ _ ih => exact ⟨congrArg (· + 1) ih.1, congrArg (· + 1) ih.2⟩
theorem ArgsOk.own {K : PySem.W.Frag} {Z H : Hp} {ms : List Md} {vs : List V} {ds : List D} {as : List Addr} (h : ArgsOk K Z H ms vs ds as) : ∀ a ∈ as, Z a = none ∧ ∃ o, H a = some o := by
  induction h with
  | nil => intro a m; cases m
  | fz _ _ ih => exact ih
  | io z e _ _ ih =>
    intro a m
    rcases List.mem_cons.mp m with q | m
    · rw [q]; exact ⟨z, _, e⟩
    · exact ih a m

/-- the lent addresses by the places of the parameters -/
def iosAt : Nat → List Md → List V → Nat → Addr
  | k, .io :: ms, .ref a :: vs => fun j => if j = k then a else iosAt (k + 1) ms vs j
  | k, _ :: ms, _ :: vs => iosAt (k + 1) ms vs
  | _, _, _ => fun _ => 0
section
variable {K : PySem.W.Frag} {Z H : Hp}
theorem start_len {N : List Str} {vs : List V} (h : vs.length ≤ N.length) : (L2.start N vs).length = N.length := by
  unfold L2.start
  rw [List.length_append, List.length_map, List.length_replicate]
  omega
theorem startE_len : ∀ {ms : List Md} {ds : List D} {k n : Nat}, (startE k ms ds n).length = n
  | .fz :: ms, d :: ds, k, n + 1 => by unfold startE; rw [List.length_cons, startE_len]
  | .io :: ms, d :: ds, k, n + 1 => by unfold startE; rw [List.length_cons, startE_len]
  | [], _, _, n => by simp [startE]
  | .fz :: ms, [], k, n => by simp [startE]
  | .io :: ms, [], k, n => by simp [startE]
  | .fz :: ms, d :: ds, k, 0 => by simp [startE]
  | .io :: ms, d :: ds, k, 0 => by simp [startE]
/-- the slots at the start -/
theorem start_reps {B : Bs} {ms : List Md} {vs : List V} {ds : List D} {as : List Addr} (h : ArgsOk K Z H ms vs ds as) (hF : ∀ a ∈ as, B.Fx a = none) : ∀ (k n : Nat), vs.length ≤ n → (∀ j, B.io j = iosAt k ms vs j ∨ j < k) →
    ∃ fps : List (List Addr), Paired (fun (e : Ent) fp => SlR K B Z H e.1 fp e.2) ((vs.map some ++ List.replicate (n - vs.length) none).zip (startE k ms ds n)) fps ∧ fps.flatten = as := by
  induction h with
  | nil =>
    intro k n _ _
    have main : ∀ m : Nat, ∃ fps : List (List Addr), Paired (fun (e : Ent) fp => SlR K B Z H e.1 fp e.2) ((List.replicate m none).zip (List.replicate m Sl.un)) fps ∧ fps.flatten = [] := by
      intro m
      induction m with
      | zero => exact ⟨[], .nil, rfl⟩
      | succ m ih =>
        obtain ⟨fps, p, e⟩ := ih
        exact ⟨[] :: fps, .cons rfl p, by simpa using e⟩
    simpa [startE] using main n
  | fz r t ih =>
    intro k n hn h3
    rename_i ms vs ds as v d
    obtain ⟨n, rfl⟩ : ∃ m, n = m + 1 := ⟨n - 1, by simp at hn; omega⟩
    obtain ⟨fps, p, e⟩ := ih hF (k + 1) n (by simpa using hn) (fun j => by
        rcases h3 j with q | q
        · exact .inl q
        · exact .inr (by omega))
    refine ⟨[] :: fps, ?_, by simpa using e⟩
    have e1 : (v :: vs).map some ++ List.replicate (n + 1 - (v :: vs).length) none = some v :: (vs.map some ++ List.replicate (n - vs.length) none) := by simp
    rw [e1]
    exact .cons ⟨rfl, v, rfl, r⟩ p
  | io z ha r t ih =>
    intro k n hn h3
    rename_i ms vs ds as a o d
    obtain ⟨n, rfl⟩ : ∃ m, n = m + 1 := ⟨n - 1, by simp at hn; omega⟩
    have bk : k < k + 1 := Nat.lt_succ_self k
    obtain ⟨fps, p, e⟩ := ih (fun b m => hF b (List.mem_cons_of_mem _ m)) (k + 1) n (by simpa using hn) (fun j => by
        by_cases hj : j < k + 1
        · exact .inr hj
        · rcases h3 j with q | q
          · refine .inl (q.trans ?_)
            show (if j = k then a else iosAt (k + 1) ms vs j) = _
            rw [if_neg (by omega)]
          · omega)
    refine ⟨[a] :: fps, ?_, by simp [e]⟩
    have e1 : (V.ref a :: vs).map some ++ List.replicate (n + 1 - (V.ref a :: vs).length) none = some (V.ref a) :: (vs.map some ++ List.replicate (n - vs.length) none) := by simp
    rw [e1]
    refine .cons ⟨a, o, rfl, rfl, z, hF a (List.mem_cons_self ..), ha, r, ?_⟩ p
    rcases h3 k with q | q
    · rw [q]; show (if k = k then a else _) = a; rw [if_pos rfl]
    · omega
end

/-! ### the body -/
theorem withN_mono {o : Option (List D)} {k k' : List D → Prop} (h : withN o k) (m : ∀ x, k x → k' x) : withN o k' := by
  cases o with
  | none => exact h
  | some x => exact m x h
section
variable {P : Program} {w : World} {K : PySem.W.Frag} {mg : Str → Option Value} {base : Heap} {k : Nat} {f : Addr} {fd : FuncData} {ps : List Str}
theorem outs_aux {B : Bs} {Z H : Hp} : ∀ {ms : List Md} {vs : List V} {ds0 : List D} {as : List Addr} {Z0 H0 : Hp}, ArgsOk K Z0 H0 ms vs ds0 as → ∀ (k : Nat) (σ : L2.St) (ρ : En) (fps : List (List Addr)) (outs : List D), σ.length = ρ.length →
    Paired (fun (e : Ent) fp => SlR K B Z H e.1 fp e.2) (σ.zip ρ) fps → (∀ j, B.io j = iosAt k ms vs j ∨ j < k) → outsE k ms ρ = some outs → OutsOk K Z H ms vs outs := by
  intro ms vs ds0 as Z0 H0 h
  induction h with
  | nil =>
    intro k σ ρ fps outs _ _ _ e
    have e : some [] = some outs := by cases ρ <;> exact e
    cases e
    exact .nil
  | fz _ _ ih =>
    intro k σ ρ fps outs hl p hio e
    rename_i ms vs ds as v d _ _
    cases ρ with
    | nil => cases e
    | cons s ρ =>
      cases σ with
      | nil => simp at hl
      | cons u σ =>
        cases p with
        | cons q p =>
          unfold outsE at e
          cases e1 : outsE (k + 1) ms ρ with
          | none => rw [e1] at e; cases e
          | some r =>
            rw [e1] at e
            cases e
            refine .fz (ih (k + 1) σ ρ _ r (by simpa using hl) p (fun j => ?_) e1)
            rcases hio j with z | z
            · exact .inl z
            · exact .inr (by omega)
  | io _ _ _ _ ih =>
    intro k σ ρ fps outs hl p hio e
    rename_i ms vs ds as a o d _ _ _ _
    cases ρ with
    | nil => cases e
    | cons s ρ =>
      cases σ with
      | nil => simp at hl
      | cons u σ =>
        cases p with
        | cons q p =>
          cases s with
          | io j d' =>
            unfold outsE at e
            by_cases hj : j = k
            · rw [if_pos hj] at e
              cases e1 : outsE (k + 1) ms ρ with
              | none => rw [e1] at e; cases e
              | some r =>
                rw [e1] at e
                cases e
                obtain ⟨b, o', _, _, z, _, hb, r', kio⟩ := q
                have ba : b = a := by
                  rcases hio j with w | w
                  · rw [← kio, w]
                    show (if j = k then a else _) = a
                    rw [if_pos hj]
                  · omega
                subst ba
                refine .io z hb r' (ih (k + 1) σ ρ _ r (by simpa using hl) p (fun j => ?_) e1)
                by_cases hj2 : j < k + 1
                · exact .inr hj2
                · rcases hio j with w | w
                  · refine .inl (w.trans ?_)
                    show (if j = k then b else iosAt (k + 1) ms vs j) = _
                    rw [if_neg (by omega)]
                  · omega
            · rw [if_neg hj] at e; cases e
          | _ => cases e
/-- one context as a family -/
structure FmP (X : Cx) (K : PySem.W.Frag) (W : WX) (w : World) : Prop where
  hK : X.K = K
  calm : X.calm = true
  nd : X.N.Nodup
  un : X.A.units + 80 < cLine
  gd : X.A.guards = some []
  po : PassesOwn (model X.prog X.w) X.A X.env X.xe
  tk : Takes X W
  hw : X.w = w
abbrev fmOf (X : Cx) (K : PySem.W.Frag) (W : WX) (w : World) (h : FmP X K W w) : Fm := ⟨Unit, fun _ => X, K, W, fun _ => h.hK, fun _ => h.calm, fun _ => h.nd, fun _ => h.un, fun _ => h.gd, fun _ => h.po, fun _ => h.tk, w, fun _ => h.hw⟩
/-- a def, by its body's reading over data -/
theorem FnG.pu {x qual : Str} {st : Stmt} {N : List Str} {ms : List Md} {sp : DSp} {ws : WS} (T : Fun K x qual st f fd) (S : FnScope N ps (defScope st)) (hl : ms.length = ps.length) (hn : ps.length ≤ N.length)
    (body : ∀ (W : WX) (cdv : Value) (A : Around) (outer : List Env) (s : Shared) (H : Hp) (E : XK) (h : FmP (cxOf (L2.CX P w) P w K mg base N qual (defScope st) f cdv A outer s H E) K W w), Room k (A.deeper (envOfC qual (defScope st) s.heap.objs.size f cdv)) → RSs (fmOf _ K W w h) (defBody st) ws)
    (keep : keeps ms N.length sp ws) : FnG P w K mg base (k + 1) f fd ps (spL K ms sp) := by
  refine FnG.def T S (fun vs H Q E h => ?_) (fun cdv A outer s H vs Q E hr hgd h => ?_)
  · obtain ⟨Z, ds, as, _, _, _, h, _⟩ := h
    rw [h.len.1, hl]
  · obtain ⟨Z, ds, as, Q0, E0, hZ, ha, nd, hsp, hQ, hE⟩ := h
    let X : Cx := cxOf (L2.CX P w) P w K mg base N qual (defScope st) f cdv A outer s H E
    have hF : FmP X K (fun cls d _ H => E cls d H) w := ⟨rfl, rfl, S.nd, (by have := hr.un; show (A.deeper _).units + 80 < cLine; omega), hgd, passes_of rfl, takes_of rfl rfl rfl rfl, rfl⟩
    obtain ⟨t, h1, h2⟩ := body _ cdv A outer s H E hF hr
    refine ⟨t, h1 (), ?_⟩
    let B : Bs := ⟨fun b => if b ∈ as then none else H b, Z, H, iosAt 0 ms vs⟩
    have Fx1 : ∀ {a : Addr}, a ∈ as → B.Fx a = none := fun m => if_pos m
    have Fx2 : ∀ {a : Addr}, a ∉ as → B.Fx a = H a := fun m => if_neg m
    have lens := ha.len
    have hvn : vs.length ≤ N.length := by rw [lens.1, hl]; exact hn
    have S0 : St1 K B (L2.start N vs) H (startE 0 ms ds N.length) Z [] := by
      refine ⟨by rw [start_len hvn, startE_len], hZ, fun _ _ e => .inl e, fun _ _ e => e, fun a o e => ?_, fun _ e => e, ?_⟩
      · by_cases m : a ∈ as
        · rw [Fx1 m] at e; cases e
        · rw [Fx2 m] at e; exact e
      · obtain ⟨fps, p, e⟩ := start_reps (B := B) ha (fun a m => Fx1 m) 0 N.length hvn (fun j => .inl rfl)
        simp only [tmps, List.map_nil, List.append_nil]
        exact ⟨fps, p, by rw [e]; exact nd⟩
    have post : ∀ {σ' : L2.St} {H' : Hp} {ρ' : En} {Z' : Hp} {tmp : List (V × Sl)} {outs : List D}, St1 K B σ' H' ρ' Z' tmp → outsE 0 ms ρ' = some outs → Post K Z H ms vs as Z' H' outs := fun {σ' H' ρ' Z' tmp outs} S' e => by
      refine ⟨S'.zo, S'.sub, fun a o e => ?_, fun b o e m => S'.fx b o ((Fx2 m).trans e), S'.dm, ?_⟩
      · rcases S'.zn a o e with z | ⟨_, z⟩
        · exact .inl z
        · exact .inr z
      · obtain ⟨fps, p, _⟩ := S'.rp
        obtain ⟨f1, f2, rfl, p1, _⟩ := pd_split p
        exact outs_aux ha 0 σ' ρ' f1 outs S'.len p1 (fun j => .inl rfl) e
    have hk := keep ds Q0 E0 lens.2 hsp
    refine h2 B (L2.start N vs) H _ Z _ _ S0 ?_ hk
    refine ⟨fun σ' H' ρ' Z' S' q => ?_, fun σ' v s H' ρ' Z' S' q => ?_, fun _ _ _ _ _ q => (show False from q).elim, fun _ _ _ _ _ q => (show False from q).elim, fun σ' H' ρ' Z' C dx v d S' hdx r q => ?_⟩
    · obtain ⟨outs, e, q⟩ := withN_of q
      exact hQ _ _ q _ _ _ (post S' e) .non
    · obtain ⟨hv, q⟩ := vl_of q
      obtain ⟨outs, e, q⟩ := withN_of q
      refine hQ _ _ q _ _ _ (post S' e) ?_
      obtain ⟨fps, p, _⟩ := S'.rp
      obtain ⟨f1, f2, _, _, p2⟩ := pd_split p
      obtain ⟨g, _, sl⟩ := pd_one p2
      rcases hv with ⟨d, rfl⟩ | ⟨d, rfl⟩
      · obtain ⟨_, u, e, r⟩ := sl
        have e : some v = some u := e
        cases e
        exact r
      · obtain ⟨a, o, e, _, z, _, h0, ha', r⟩ := sl
        have e : some v = some (V.ref a) := e
        cases e
        exact ⟨a, o, rfl, h0, z, ha', r⟩
    · obtain ⟨outs, e, q⟩ := withN_of q
      exact hE _ _ _ q _ _ _ _ (post S' e) hdx r
end
end Pu

set_option Elab.async false
set_option linter.all false
set_option maxRecDepth 100000
/-! Pu, calls of defs, makings of instances, fields. -/
namespace Pu
open PySem L2 PySem.Spec PyProof.Rows

section
variable {F : Fm} {K : PySem.W.Frag} {B : Bs} {σ : L2.St} {H H' : Hp} {ρ : En} {Z Z' : Hp} {E : EX} {e a b : Expr} {pos : Pos}
theorem ArOk.le {v : V} {r : Ar} (h : ArOk K σ Z v r) (k : Le Z Z') : ArOk K σ Z' v r := by
  cases r with
  | v d => exact Rp.le k d v h
  | s i => exact h
theorem pd_ArLe {vs : List V} {rs : List Ar} (h : Paired (ArOk K σ Z) vs rs) (k : Le Z Z') : Paired (ArOk K σ Z') vs rs := pd_imp h fun _ _ _ q => q.le k

/-- two slots on one address are one -/
theorem fps_inj : ∀ {fps : List (List Addr)} {i j : Nat} {a : Addr}, fps.flatten.Nodup → fps[i]? = some [a] → fps[j]? = some [a] → i = j
  | [], _, _, _, _, e, _ => by simp at e
  | g :: fps, 0, 0, _, _, _, _ => rfl
  | g :: fps, 0, j + 1, a, nd, e1, e2 => by
    simp at e1
    subst e1
    rw [List.flatten_cons] at nd
    obtain ⟨_, _, d⟩ := nodup_app nd
    exact absurd (List.mem_flatten.mpr ⟨[a], List.mem_of_getElem? (by simpa using e2), by simp⟩) (d a (by simp))
  | g :: fps, i + 1, 0, a, nd, e1, e2 => by
    simp at e2
    subst e2
    rw [List.flatten_cons] at nd
    obtain ⟨_, _, d⟩ := nodup_app nd
    exact absurd (List.mem_flatten.mpr ⟨[a], List.mem_of_getElem? (by simpa using e1), by simp⟩) (d a (by simp))
  | g :: fps, i + 1, j + 1, a, nd, e1, e2 => by
    rw [List.flatten_cons] at nd
    exact congrArg (· + 1) (fps_inj (i := i) (j := j) (nodup_app nd).2.1 (by simpa using e1) (by simpa using e2))
theorem fps_out {fps : List (List Addr)} {i j : Nat} {a : Addr} {g : List Addr} (nd : fps.flatten.Nodup) (e1 : fps[i]? = some [a]) (e2 : fps[j]? = some g) (m : a ∈ g) (ne : i ≠ j) : False := by
  induction fps generalizing i j with
  | nil => simp at e1
  | cons g0 fps ih =>
    rw [List.flatten_cons] at nd
    obtain ⟨_, n2, d⟩ := nodup_app nd
    cases i with
    | zero =>
      cases j with
      | zero => exact ne rfl
      | succ j =>
        simp at e1
        subst e1
        exact d a (by simp) (List.mem_flatten.mpr ⟨g, List.mem_of_getElem? (by simpa using e2), m⟩)
    | succ i =>
      cases j with
      | zero =>
        simp at e2
        subst e2
        exact d a m (List.mem_flatten.mpr ⟨[a], List.mem_of_getElem? (by simpa using e1), by simp⟩)
      | succ j => exact ih n2 (by simpa using e1) (by simpa using e2) (fun q => ne (by rw [q]))
/-- the arguments of a call, as the callee takes them -/
theorem ar_args {fps : List (List Addr)} (hl : σ.length = ρ.length) (p : Paired (fun (e : Ent) fp => SlR K B Z H e.1 fp e.2) (σ.zip ρ) fps) : ∀ {vs : List V} {ars : List Ar} {ds : List D}, Paired (ArOk K σ Z) vs ars → argsD ρ ars = some ds →
    ∃ as, ArgsOk K Z H (modesOf ars) vs ds as ∧ Paired (fun (i : Nat) a => fps[i]? = some [a]) (slotsOf ars) as
  | _, [], ds, h, e => by
    cases h
    have e : some [] = some ds := e
    cases e
    exact ⟨[], .nil, .nil⟩
  | _, .v d :: ars, ds, h, e => by
    cases h with
    | cons h t =>
      unfold argsD at e
      cases e1 : argsD ρ ars with
      | none => rw [e1] at e; cases e
      | some r =>
        rw [e1] at e
        cases e
        obtain ⟨as, h1, h2⟩ := ar_args hl p t e1
        exact ⟨as, .fz h h1, h2⟩
  | _, .s i :: ars, ds, h, e => by
    cases h with
    | cons h t =>
      unfold argsD at e
      cases e2 : lent ρ[i]? with
      | none => rw [e2] at e; cases e
      | some d =>
        rw [e2] at e
        cases e1 : argsD ρ ars with
        | none => simp only [e1] at e; cases e
        | some r =>
          simp only [e1] at e
          cases e
          obtain ⟨as, h1, h2⟩ := ar_args hl p t e1
          cases e3 : ρ[i]? with
          | none => rw [e3] at e2; cases e2
          | some s =>
            have h : σ[i]? = some (some _) := h
            rename_i v vs' _
            have e4 : (σ.zip ρ)[i]? = some (some v, s) := List.getElem?_zip_eq_some.mpr ⟨h, e3⟩
            obtain ⟨g, eg, q⟩ := pd_getL p e4
            rw [e3] at e2
            cases s with
            | ow d' =>
              cases e2
              obtain ⟨a, o, ev, rfl, z, _, _, ha, r⟩ := q
              have ev : some v = some (V.ref a) := ev
              cases ev
              exact ⟨a :: as, .io z ha r h1, .cons eg h2⟩
            | io k d' =>
              cases e2
              obtain ⟨a, o, ev, rfl, z, _, ha, r, _⟩ := q
              have ev : some v = some (V.ref a) := ev
              cases ev
              exact ⟨a :: as, .io z ha r h1, .cons eg h2⟩
            | _ => cases e2
theorem as_nodup {fps : List (List Addr)} (nd : fps.flatten.Nodup) : ∀ {is : List Nat} {as : List Addr}, Paired (fun (i : Nat) a => fps[i]? = some [a]) is as → is.Nodup → as.Nodup
  | _, _, .nil, _ => List.nodup_nil
  | i :: is, a :: as, .cons h t, n => by
    obtain ⟨n1, n2⟩ := List.nodup_cons.mp n
    refine List.nodup_cons.mpr ⟨fun m => n1 ?_, as_nodup nd t n2⟩
    obtain ⟨j, hj⟩ := List.getElem?_of_mem m
    obtain ⟨i', e, q⟩ := pd_get t hj
    rw [fps_inj nd h q]
    exact List.mem_of_getElem? e
/-- the slots behind a call -/
theorem backD_ok {Z' H' : Hp} : ∀ {ars : List Ar} {vs : List V} {outs : List D} {ρ : En}, (slotsOf ars).Nodup → Paired (ArOk K σ Z) vs ars → OutsOk K Z' H' (modesOf ars) vs outs →
    (backD ρ ars outs).length = ρ.length ∧ (∀ i, i ∉ slotsOf ars → (backD ρ ars outs)[i]? = ρ[i]?) ∧ ∀ i ∈ slotsOf ars, ∃ a o d, σ[i]? = some (some (.ref a)) ∧ Z' a = none ∧ H' a = some o ∧ RpO K Z' o d ∧ ∀ s, ρ[i]? = some s → (backD ρ ars outs)[i]? = some (lentBack (some s) d)
  | [], _, outs, ρ, _, _, h => by
    cases h
    exact ⟨rfl, fun _ _ => rfl, fun i m => by cases m⟩
  | .v d :: ars, _, outs, ρ, n, p, h => by
    cases p with
    | cons _ p =>
      cases h with
      | fz h => exact backD_ok (ρ := ρ) (ars := ars) n p h
  | .s j :: ars, _, outs, ρ, n, p, h => by
    cases p with
    | cons pj p =>
      cases h with
      | io z ha r h =>
        rename_i a o d
        obtain ⟨n1, n2⟩ := List.nodup_cons.mp n
        obtain ⟨h1, h2, h3⟩ := backD_ok (ρ := ρ.set j (lentBack ρ[j]? d)) (ars := ars) n2 p h
        refine ⟨h1.trans (by simp), fun i m => ?_, fun i m => ?_⟩
        · have m' : ¬ (i = j ∨ i ∈ slotsOf ars) := fun q => m (List.mem_cons.mpr q)
          have e := h2 i fun q => m' (.inr q)
          refine e.trans (List.getElem?_set_ne fun q => m' (.inl q.symm))
        · rcases List.mem_cons.mp m with rfl | m
          · refine ⟨a, o, d, pj, z, ha, r, fun s es => (h2 i n1).trans ?_⟩
            rw [List.getElem?_set_self (lt_of_get es), es]
          · have ne : j ≠ i := fun q => n1 (q ▸ m)
            obtain ⟨a', o', d', e1, e2, e3, e4, e5⟩ := h3 i m
            exact ⟨a', o', d', e1, e2, e3, e4, fun s es => e5 s ((List.getElem?_set_ne ne).trans es)⟩
theorem lent_of : ∀ {ars : List Ar} {ds : List D}, argsD ρ ars = some ds → ∀ i ∈ slotsOf ars, ∃ d, lent ρ[i]? = some d
  | [], _, _, i, m => by cases m
  | .v d :: ars, ds, e, i, m => by
    unfold argsD at e
    cases e1 : argsD ρ ars with
    | none => rw [e1] at e; cases e
    | some r => exact lent_of e1 i m
  | .s j :: ars, ds, e, i, m => by
    unfold argsD at e
    cases e2 : lent ρ[j]? with
    | none => rw [e2] at e; cases e
    | some d =>
      rw [e2] at e
      cases e1 : argsD ρ ars with
      | none => simp only [e1] at e; cases e
      | some r =>
        rcases List.mem_cons.mp m with q | m
        · rw [q]; exact ⟨d, e2⟩
        · exact lent_of e1 i m
/-- the state behind a call -/
theorem St1.after {vs : List V} {ars : List Ar} {ds outs : List D} {as : List Addr} {fps : List (List Addr)} (S : St1 K B σ H ρ Z []) (p : Paired (fun (e : Ent) fp => SlR K B Z H e.1 fp e.2) (σ.zip ρ) fps) (nd : fps.flatten.Nodup) (pa : Paired (ArOk K σ Z) vs ars) (ns : (slotsOf ars).Nodup) (hd : argsD ρ ars = some ds)
    (pas : Paired (fun (i : Nat) a => fps[i]? = some [a]) (slotsOf ars) as) (po : Post K Z H (modesOf ars) vs as Z' H' outs) :
    St1 K B σ H' (backD ρ ars outs) Z' [] ∧ ∀ v s, ResOk K H Z' H' v s → St1 K B σ H' (backD ρ ars outs) Z' [(v, s)] := by
  obtain ⟨b1, b2, b3⟩ := backD_ok (ρ := ρ) ns pa po.out
  have to_ : ∀ a ∈ as, ∃ i ∈ slotsOf ars, fps[i]? = some [a] := fun a m => by
    obtain ⟨j, hj⟩ := List.getElem?_of_mem m
    obtain ⟨i, e, q⟩ := pd_get pas hj
    exact ⟨i, List.mem_of_getElem? e, q⟩
  have Zout : ∀ {a : Addr} {o : HO}, H a = some o → Z a = none → Z' a = none := fun {a o} e z => by
    cases q : Z' a with
    | none => rfl
    | some u =>
      rcases po.new a u q with w | w
      · rw [z] at w; cases w
      · rw [e] at w; cases w
  have p' : Paired (fun (e : Ent) fp => SlR K B Z' H' e.1 fp e.2) (σ.zip (backD ρ ars outs)) fps := by
    have hl : (σ.zip ρ).length = fps.length := pd_len p
    refine pd_ix (by rw [← hl]; simp [b1]) fun i x g e1 e2 => ?_
    obtain ⟨v, s'⟩ := x
    rw [List.getElem?_zip_eq_some] at e1
    obtain ⟨ev, es'⟩ := e1
    have ev : σ[i]? = some v := ev
    have es' : (backD ρ ars outs)[i]? = some s' := es'
    have hi : i < ρ.length := by rw [← S.len]; exact lt_of_get ev
    have es : ρ[i]? = some ρ[i] := by simp [hi]
    obtain ⟨g', eg, q⟩ := pd_getL p (List.getElem?_zip_eq_some.mpr ⟨ev, es⟩ : (σ.zip ρ)[i]? = some (v, ρ[i]))
    rw [e2] at eg
    cases eg
    by_cases m : i ∈ slotsOf ars
    · obtain ⟨a, o, d, e3, z', ha', r', e4⟩ := b3 i m
      have e5 := e4 _ es
      rw [es'] at e5
      have e5 := Option.some.inj e5
      rw [ev] at e3
      have e3 : v = some (.ref a) := Option.some.inj e3
      rw [e5]
      obtain ⟨dl, el⟩ := lent_of hd i m
      rw [es] at el
      generalize ρ[i] = s at q el
      cases s with
      | ow d0 =>
        obtain ⟨a1, o1, ev1, eg1, _, f, h0, _, _⟩ := q
        have ev1 : v = some (V.ref a1) := ev1
        rw [e3] at ev1
        cases ev1
        exact ⟨a, o, e3, eg1, z', f, h0, ha', r'⟩
      | io k d0 =>
        obtain ⟨a1, o1, ev1, eg1, _, f, _, _, kk⟩ := q
        have ev1 : v = some (V.ref a1) := ev1
        rw [e3] at ev1
        cases ev1
        exact ⟨a, o, e3, eg1, z', f, ha', r', kk⟩
      | _ => cases el
    · have e3 := b2 i m
      rw [es', es] at e3
      have e3 := Option.some.inj e3
      rw [e3]
      have ow := q.own
      refine q.move rfl po.le (fun a ma z => ?_) (fun _ _ f => f) (fun _ _ z => z) (fun a ma => ?_)
      · obtain ⟨_, _, o, e⟩ := ow a ma
        exact Zout e z
      · obtain ⟨_, _, o, e⟩ := ow a ma
        rw [e]
        refine po.keep a o e fun mm => ?_
        obtain ⟨j, mj, ej⟩ := to_ a mm
        exact fps_out nd ej e2 ma fun q => m (q ▸ mj)
  have core : ∀ {tmp : List (V × Sl)}, Reps K B Z' H' (σ.zip (backD ρ ars outs) ++ tmps tmp) → St1 K B σ H' (backD ρ ars outs) Z' tmp := fun {tmp} R => by
    refine ⟨by rw [b1]; exact S.len, po.sub, fun a o e => ?_, S.zo.trans' po.le, fun a o e => po.keep a o (S.fx a o e) fun m => ?_, fun a h => po.dom a (S.dm a h), R⟩
    · rcases po.new a o e with z | z
      · exact S.zn a o z
      · exact .inr (S.fresh z).2
    · obtain ⟨i, _, ei⟩ := to_ a m
      obtain ⟨x, _, q⟩ := pd_get p ei
      obtain ⟨_, f, _⟩ := q.own a (by simp)
      rw [f] at e; cases e
  refine ⟨core (by simp only [tmps, List.map_nil, List.append_nil]; exact ⟨fps, p', nd⟩), fun v s r => core ?_⟩
  have e : σ.zip (backD ρ ars outs) ++ tmps [(v, s)] = σ.zip (backD ρ ars outs) ++ [(some v, s)] := rfl
  rw [e]
  cases s with
  | fz d => exact ⟨fps ++ [[]], pd_app p' (.cons ⟨rfl, v, rfl, r⟩ .nil), by simpa using nd⟩
  | ow d =>
    obtain ⟨a, o, rfl, h0, z, ha, ro⟩ := r
    refine ⟨fps ++ [[a]], pd_app p' (.cons ⟨a, o, rfl, rfl, z, (S.fresh h0).2.1, (S.fresh h0).2.2, ha, ro⟩ .nil), ?_⟩
    rw [List.flatten_append]
    refine List.nodup_append.mpr ⟨nd, by simp, fun x m1 y m2 xy => ?_⟩
    subst xy
    have m2 : x = a := by simpa using m2
    subst m2
    obtain ⟨_, _, o', e'⟩ := pd_own p x m1
    rw [h0] at e'; cases e'
  | _ => exact (show False from r).elim

/-! ### argument lists -/
def RAs (F : Fm) (es : List Expr) (w : WAs) (ms : List Md) (is : List Nat) : Prop := ∃ t, (∀ i, PA (F.X i) es t) ∧ LAs F t w ms is
def RKs (F : Fm) (kws : List Keyword) (w : WAs) (ms : List Md) (is : List Nat) : Prop := ∃ t, (∀ i, PK (F.X i) kws t) ∧ LAs F t w ms is
theorem las_nil : LAs F tNil asN [] [] := fun B σ H ρ Z Q Q' E S X hw q => q [] [] H ρ Z S (fun _ _ z => z) .nil rfl rfl hw
theorem las_v {ta : TE} {tb : TA} {wa : WE} {wb : WAs} {ms : List Md} {is : List Nat} (a2 : LE F ta wa) (b2 : LAs F tb wb ms is) : LAs F (tCons ta tb) (asV wa wb) (.fz :: ms) is :=
  fun B σ H ρ Z Q Q' E S X hw q => a2 B σ H ρ Z _ _ E S X hw fun x s H1 ρ1 Z1 S1 le1 hw => by
    obtain ⟨d, hs, hw⟩ := fr_of hw
    obtain ⟨Z1', le1', S1', r⟩ := S1.thaw1 hs
    refine b2 B σ H1 ρ1 Z1' _ _ E S1' X hw fun vs as H2 ρ2 Z2 S2 le2 p m1 m2 hw => ?_
    exact q (x :: vs) (.v d :: as) H2 ρ2 Z2 S2 (le1.trans' (le1'.trans' le2)) (.cons (Rp.le le2 d x r) p) (by rw [← m1]; rfl) m2 hw
theorem las_s {tb : TA} {wb : WAs} {ms : List Md} {is : List Nat} (k : Nat) (b2 : LAs F tb wb ms is) : LAs F (tCons (tVar k) tb) (asS k wb) (.io :: ms) (k :: is) :=
  fun B σ H ρ Z Q Q' E S X hw q => by
    obtain ⟨d, hl, hw⟩ := with1_of hw
    have : ∃ v, σ[k]? = some (some v) := by
      cases e : ρ[k]? with
      | none => rw [e] at hl; cases hl
      | some s =>
        rw [e] at hl
        obtain ⟨u, g, e1, sr⟩ := S.slot e
        cases s with
        | ow d' =>
          obtain ⟨a, o, ev, _⟩ := sr
          exact ⟨_, by rw [e1, ev]⟩
        | io j d' =>
          obtain ⟨a, o, ev, _⟩ := sr
          exact ⟨_, by rw [e1, ev]⟩
        | _ => cases hl
    obtain ⟨v, ev⟩ := this
    refine ⟨v, ev, b2 B σ H ρ Z _ _ E S X hw fun vs as H2 ρ2 Z2 S2 le2 p m1 m2 hw => ?_⟩
    exact q (v :: vs) (.s k :: as) H2 ρ2 Z2 S2 le2 (.cons ev p) (by rw [← m1]; rfl) (by rw [← m2]; rfl) hw
theorem ras_nil : RAs F [] asN [] [] := ⟨tNil, fun _ => pa_nil, las_nil⟩
theorem ras_v {es : List Expr} {wa : WE} {wb : WAs} {ms : List Md} {is : List Nat} (ha : RE F e wa) (hb : RAs F es wb ms is) (hs : ∀ i, starEach (e :: es) (F.X i).env = (false, eval e (F.X i).env) :: starEach es (F.X i).env := by intro _; rfl) : RAs F (e :: es) (asV wa wb) (.fz :: ms) is := by
  obtain ⟨ta, a1, a2⟩ := ha
  obtain ⟨tb, b1, b2⟩ := hb
  exact ⟨_, fun i => pa_cons (a1 i) (b1 i) (hs i), las_v a2 b2⟩
theorem ras_s {es : List Expr} {x : Str} {wb : WAs} {ms : List Md} {is : List Nat} (k : Nat) (hb : RAs F es wb ms is) (hN : ∀ i, (F.X i).N[k]? = some x := by intro _; rfl) (hv : ∀ i, Vis (F.X i).env.scope x := by intro _; first | exact Or.inl rfl | exact Or.inr (Or.inl rfl) | exact Or.inr (Or.inr rfl))
    (hd : (x == ("__debug__" : Str)) = false := by decide) (hcd : (x == ("__classdict__" : Str)) = false := by decide)
    (hs : ∀ i, starEach (.Name x pos :: es) (F.X i).env = (false, eval (.Name x pos) (F.X i).env) :: starEach es (F.X i).env := by intro _; rfl) : RAs F (.Name x pos :: es) (asS k wb) (.io :: ms) (k :: is) := by
  obtain ⟨tb, b1, b2⟩ := hb
  exact ⟨_, fun i => pa_cons (pe_var (hN i) (hv i) hd hcd) (b1 i) (hs i), las_s k b2⟩
theorem rks_nil : RKs F [] asN [] [] := ⟨tNil, fun _ => pk_nil, las_nil⟩
theorem rks_v {nm : Option Str} {kpos : Pos} {kws : List Keyword} {wa : WE} {wb : WAs} {ms : List Md} {is : List Nat} (ha : RE F e wa) (hb : RKs F kws wb ms is) : RKs F (⟨nm, e, kpos⟩ :: kws) (asV wa wb) (.fz :: ms) is := by
  obtain ⟨ta, a1, a2⟩ := ha
  obtain ⟨tb, b1, b2⟩ := hb
  exact ⟨_, fun i => pk_cons (a1 i) (b1 i), las_v a2 b2⟩
theorem rks_s {nm : Option Str} {x : Str} {kpos : Pos} {kws : List Keyword} {wb : WAs} {ms : List Md} {is : List Nat} (k : Nat) (hb : RKs F kws wb ms is) (hN : ∀ i, (F.X i).N[k]? = some x := by intro _; rfl) (hv : ∀ i, Vis (F.X i).env.scope x := by intro _; first | exact Or.inl rfl | exact Or.inr (Or.inl rfl) | exact Or.inr (Or.inr rfl))
    (hd : (x == ("__debug__" : Str)) = false := by decide) (hcd : (x == ("__classdict__" : Str)) = false := by decide) : RKs F (⟨nm, .Name x pos, kpos⟩ :: kws) (asS k wb) (.io :: ms) (k :: is) := by
  obtain ⟨tb, b1, b2⟩ := hb
  exact ⟨_, fun i => pk_cons (pe_var (hN i) (hv i) hd hcd) (b1 i), las_s k b2⟩

/-! ### calls -/
/-- how n values and the keywords ks, these in the parameters' order, are bound -/
def Bd (fd : FuncData) (ps : List Str) (n : Nat) (ks : List Str) : Prop := ∀ us ws : List Value, us.length = n → ws.length = ks.length → bindArgs fd ⟨us, ks.zip ws⟩ = pure (ps.zip (us ++ ws))
theorem bd_of {K : PySem.W.Frag} {x qual : Str} {st : Stmt} {f : Addr} {fd : FuncData} {ps : List Str} {n : Nat} {ks : List Str} (T : Fun K x qual st f fd)
    (h : ∀ (kV doc pm : Value) (an : Option Addr) (cdv ct : Value) (us ws : List Value), us.length = n → ws.length = ks.length → bindArgs (PySem.W.fnOf x qual (defArgs st) (defBody st) (defScope st) .none kV doc pm an cdv ct) ⟨us, ks.zip ws⟩ = pure (ps.zip (us ++ ws))) : Bd fd ps n ks := by
  obtain ⟨oc, od, kV, doc, pm, an, cdv, ct, osl, rfl, lk, hcd⟩ := T.ex
  exact h kV doc pm an cdv ct
section
variable {X : Cx} {W : WX} {k n : Nat} {f : Addr} {fd : FuncData} {ps ks : List Str} {sp : Sp} {x : Str} {p apos : Pos} {es : List Expr} {kws : List Keyword} {t tk : TA}
/-- from a body: the callee runs, and comes back -/
theorem back_of {pins : List (Addr × Obj)} {σ : L2.St} {H : Hp} {s : Shared} {Q : VK} {args : Args} (tkx : Takes X W) (I : Inv X pins σ H s) (h : codeAny (model X.prog X.w) X.A (.call (.ref f) args) (CR (L2.CX X.prog X.w) X.stack X.prog X.w H s Q (L2.WE W σ)) s) :
    codeAny (model X.prog X.w) X.A (.call (.ref f) args) (fun r s' => match r with | .ok (.ret u) => EP X pins σ Q u s' | .ok _ => False | .error e => X.xe e s') s :=
  codeAny_mono h fun r s' hq => by
    cases r with
    | error e => exact passAt tkx σ pins H s e s' I hq
    | ok fl =>
      cases fl with
      | ret u => exact I.after hq
      | _ => exact (show False from hq)
theorem run_g {pins : List (Addr × Obj)} {σ : L2.St} {H : Hp} {s : Shared} {Q : VK} {us ws : List Value} {vs zs : List V} (G : FnG X.prog X.w X.K X.mg X.base k f fd ps sp) (hr : Room k X.A) (hgd : X.A.guards = some []) (hb : Bd fd ps n ks) (tkx : Takes X W)
    (I : Inv X pins σ H s) (r : Vals vs us) (rz : Vals zs ws) (l1 : us.length = n) (l2 : ws.length = ks.length) (h : sp (vs ++ zs) H Q (L2.WE W σ)) : wpAny (model X.prog X.w) X.A (call (.ref f) us (ks.zip ws)) (EP X pins σ Q) X.xe s := by
  have e := G.go X.A X.stack s H ⟨us, ks.zip ws⟩ (us ++ ws) (vs ++ zs) Q (L2.WE W σ) hr hgd I.env0 (.of_eq (hb us ws l1 l2)) (r.append rz) h
  refine wpAny_call (codeAny_mono (back_of tkx I e) fun r s' hq => ?_)
  cases r with
  | error e => exact hq
  | ok fl =>
    cases fl with
    | ret u => exact hq
    | _ => exact (show False from hq)
def tCallG (W : WX) (sp : Sp) (n m : Nat) (t tk : TA) : TE := fun σ H Q => t σ H fun vs H1 => tk σ H1 fun zs H2 => vs.length = n ∧ zs.length = m ∧ sp (vs ++ zs) H2 Q (L2.WE W σ)
theorem pg_call (G : FnG X.prog X.w X.K X.mg X.base k f fd ps sp) (hr : Room k X.A) (hgd : X.A.guards = some []) (hg : Gl X x) (hm : X.mg x = some (.ref f)) (hk : PySem.W.keepIn X.K (.ref f) = true) (hb : Bd fd ps n []) (tkx : Takes X W) (ha : PA X (e :: es) t)
    (hdb : (x == ("__debug__" : Str)) = false := by decide) (he : starEach (e :: es) X.env = (false, eval e X.env) :: starEach es X.env := by rfl) (hpl : (backTo pos (starEach es X.env)).any (·.1) = false := by rfl) :
    PE X (.Call (.Name x p) (e :: es) [] pos) (tCallG W sp n 0 t tNil) := by
  refine ⟨fun pins s σ H Q I h => wpAny_Call_Name_kw (ld_glob I hg hm ?_ hdb)⟩
  refine PySem.W.callWith_K (h₀ := X.base) I.ok.mod.kin hk (thn (ha.run pos pins s σ H _ I h) fun us s1 hq => ?_) he hpl
  obtain ⟨vs, H1, I1, r, l1, _, q⟩ := hq
  exact ⟨I1.kIn, run_g (ws := []) (zs := []) G hr hgd hb tkx I1 r .nil (r.length.symm.trans l1) rfl q⟩
theorem pg_call0 (G : FnG X.prog X.w X.K X.mg X.base k f fd ps sp) (hr : Room k X.A) (hgd : X.A.guards = some []) (hg : Gl X x) (hm : X.mg x = some (.ref f)) (hk : PySem.W.keepIn X.K (.ref f) = true) (hb : Bd fd ps 0 []) (tkx : Takes X W)
    (hdb : (x == ("__debug__" : Str)) = false := by decide) : PE X (.Call (.Name x p) [] [] pos) (tCallG W sp 0 0 tNil tNil) := by
  refine ⟨fun pins s σ H Q I h => wpAny_Call_Name_kw (ld_glob I hg hm ?_ hdb)⟩
  exact PySem.W.callWith_K0 I.kIn hk (run_g (us := []) (ws := []) (vs := []) (zs := []) G hr hgd hb tkx I .nil .nil rfl rfl h.2.2)
theorem pg_callK (G : FnG X.prog X.w X.K X.mg X.base k f fd ps sp) (hr : Room k X.A) (hgd : X.A.guards = some []) (hg : Gl X x) (hm : X.mg x = some (.ref f)) (hk : PySem.W.keepIn X.K (.ref f) = true) (hb : Bd fd ps n ks) (tkx : Takes X W) (ha : PA X (e :: es) t) (hkw : PK X kws tk)
    (hall : (backToKw pos (keywordEach kws X.env)).all (·.1.isSome) = true := by rfl) (hks : (backToKw pos (keywordEach kws X.env)).filterMap (·.1) = ks := by rfl) (hdb : (x == ("__debug__" : Str)) = false := by decide)
    (he : starEach (e :: es) X.env = (false, eval e X.env) :: starEach es X.env := by rfl) (hpl : ((backTo pos (starEach (e :: es) X.env)).any (·.1) || (backToKw pos (keywordEach kws X.env)).any (·.1.isNone)) = false := by rfl) :
    PE X (.Call (.Name x p) (e :: es) kws pos) (tCallG W sp n ks.length t tk) := by
  refine ⟨fun pins s σ H Q I h => wpAny_Call_Name_kw (ld_glob I hg hm ?_ hdb)⟩
  refine PySem.W.callWith_KW (h₀ := X.base) I.ok.mod.kin hk hall (thn (ha.run pos pins s σ H _ I h) fun us s1 hq => ?_) hpl he
  obtain ⟨vs, H1, I1, r, q⟩ := hq
  refine thn (hkw.run pos pins s1 σ H1 _ I1 q) fun ws s2 hq2 => ?_
  obtain ⟨zs, H2, I2, rz, l1, l2, q2⟩ := hq2
  rw [hks]
  exact ⟨I2.kIn, run_g G hr hgd hb tkx I2 r rz (r.length.symm.trans l1) (rz.length.symm.trans l2) q2⟩
theorem pg_callK0 (G : FnG X.prog X.w X.K X.mg X.base k f fd ps sp) (hr : Room k X.A) (hgd : X.A.guards = some []) (hg : Gl X x) (hm : X.mg x = some (.ref f)) (hk : PySem.W.keepIn X.K (.ref f) = true) (hb : Bd fd ps 0 ks) (tkx : Takes X W) (hkw : PK X kws tk)
    (hall : (backToKw pos (keywordEach kws X.env)).all (·.1.isSome) = true := by rfl) (hks : (backToKw pos (keywordEach kws X.env)).filterMap (·.1) = ks := by rfl) (hdb : (x == ("__debug__" : Str)) = false := by decide)
    (hpl : ((backTo pos (starEach [] X.env)).any (·.1) || (backToKw pos (keywordEach kws X.env)).any (·.1.isNone)) = false := by rfl) :
    PE X (.Call (.Name x p) [] kws pos) (tCallG W sp 0 ks.length tNil tk) := by
  refine ⟨fun pins s σ H Q I h => wpAny_Call_Name_kw (ld_glob I hg hm ?_ hdb)⟩
  refine PySem.W.callWith_KW0 (h₀ := X.base) I.ok.mod.kin hk hall (thn (hkw.run pos pins s σ H _ I h) fun ws s2 hq2 => ?_) hpl
  obtain ⟨zs, H2, I2, rz, l1, l2, q2⟩ := hq2
  rw [hks]
  exact ⟨I2.kIn, run_g (us := []) (vs := []) G hr hgd hb tkx I2 .nil rz rfl (rz.length.symm.trans l2) q2⟩
end
/-- arguments appended -/
@[simp] def asApp (a b : WAs) : WAs := fun E ρ Q => a E ρ fun as ρ1 => b E ρ1 fun bs ρ2 => Q (as ++ bs) ρ2
theorem modes_app : ∀ (as bs : List Ar), modesOf (as ++ bs) = modesOf as ++ modesOf bs
  | [], _ => rfl
  | .v _ :: as, bs => congrArg (Md.fz :: ·) (modes_app as bs)
  | .s _ :: as, bs => congrArg (Md.io :: ·) (modes_app as bs)
theorem slots_app : ∀ (as bs : List Ar), slotsOf (as ++ bs) = slotsOf as ++ slotsOf bs
  | [], _ => rfl
  | .v _ :: as, bs => slots_app as bs
  | .s i :: as, bs => congrArg (i :: ·) (slots_app as bs)
theorem ar_len {vs : List V} {as : List Ar} {ms : List Md} (h : Paired (ArOk K σ Z) vs as) (m : modesOf as = ms) : vs.length = ms.length := by
  rw [pd_len h, ← m]
  have : ∀ as : List Ar, as.length = (modesOf as).length := by
    intro as
    induction as with
    | nil => rfl
    | cons a as ih => cases a <;> exact congrArg (· + 1) ih
  exact this as
theorem call_ok {t tk : TA} {wa wk : WAs} {m1 m2 ms : List Md} {i1 i2 : List Nat} {sp : DSp} {n m : Nat} (ha : LAs F t wa m1 i1) (hk : LAs F tk wk m2 i2) (hms : m1 ++ m2 = ms) (hn : m1.length = n) (hm : m2.length = m) (nd : (i1 ++ i2).Nodup) :
    LE F (tCallG F.W (spL F.K ms sp) n m t tk) (wCall sp (asApp wa wk)) := by
  refine LE.of fun B σ H ρ Z Q Q' E S X hw q => ha B σ H ρ Z _ _ E S X hw fun vs as H1 ρ1 Z1 S1 le1 p1 em1 es1 hw => hk B σ H1 ρ1 Z1 _ _ E S1 X hw fun zs bs H2 ρ2 Z2 S2 le2 p2 em2 es2 hw => ?_
  refine ⟨(ar_len p1 em1).trans hn, (ar_len p2 em2).trans hm, ?_⟩
  obtain ⟨ds, hd, hsp⟩ := withN_of hw
  have pa : Paired (ArOk F.K σ Z2) (vs ++ zs) (as ++ bs) := pd_app (pd_ArLe p1 le2) p2
  obtain ⟨fps, pf, ndf⟩ := S2.rp
  simp only [tmps, List.map_nil, List.append_nil] at pf
  have ns : (slotsOf (as ++ bs)).Nodup := by rw [slots_app, es1, es2]; exact nd
  obtain ⟨ads, hargs, pas⟩ := ar_args S2.len pf pa hd
  have hmod : modesOf (as ++ bs) = ms := by rw [modes_app, em1, em2, hms]
  rw [hmod] at hargs
  refine ⟨Z2, ds, ads, _, _, S2.sub, hargs, as_nodup ndf pas ns, hsp, fun s outs hq v H' Z' po res => ?_, fun C d outs hq v dx H' Z' po hdx r => ?_⟩
  · rw [← hmod] at po
    exact q v s H' _ Z' ((S2.after pf ndf pa ns hd pas po).2 v s res) hq
  · rw [← hmod] at po
    exact X σ H' _ Z' C dx v d (S2.after pf ndf pa ns hd pas po).1 hdx r hq
section
variable {k n : Nat} {f : Addr} {fd : FuncData} {ps ks : List Str} {sp : DSp} {x : Str} {p apos : Pos} {es : List Expr} {kws : List Keyword} {ms m1 m2 : List Md} {i1 i2 : List Nat} {wa wk : WAs}
/-- the def at f keeps its promise, wherever we are -/
def Kp (F : Fm) (k : Nat) (f : Addr) (fd : FuncData) (ps : List Str) (ms : List Md) (sp : DSp) : Prop := ∀ i, FnG (F.X i).prog (F.X i).w (F.X i).K (F.X i).mg (F.X i).base k f fd ps (spL F.K ms sp) ∧ Room k (F.X i).A
theorem re_call (G : Kp F k f fd ps ms sp) (hm : ∀ i, (F.X i).mg x = some (.ref f)) (hk : PySem.W.keepIn F.K (.ref f) = true) (hb : Bd fd ps n []) (ha : RAs F (e :: es) wa ms i1) (hg : ∀ i, Gl (F.X i) x := by intro _; rfl) (hn : ms.length = n := by rfl) (nd : i1.Nodup := by decide)
    (hdb : (x == ("__debug__" : Str)) = false := by decide) (he : ∀ i, starEach (e :: es) (F.X i).env = (false, eval e (F.X i).env) :: starEach es (F.X i).env := by intro _; rfl) (hpl : ∀ i, (backTo pos (starEach es (F.X i).env)).any (·.1) = false := by intro _; rfl) :
    RE F (.Call (.Name x p) (e :: es) [] pos) (wCall sp (asApp wa asN)) := by
  obtain ⟨t, a1, a2⟩ := ha
  exact ⟨_, fun i => pg_call (G i).1 (G i).2 (F.gd i) (hg i) (hm i) (by rw [F.hK i]; exact hk) hb (F.tk i) (a1 i) hdb (he i) (hpl i), call_ok a2 las_nil (by simp) hn rfl (by simpa using nd)⟩
theorem re_call0 (G : Kp F k f fd ps [] sp) (hm : ∀ i, (F.X i).mg x = some (.ref f)) (hk : PySem.W.keepIn F.K (.ref f) = true) (hb : Bd fd ps 0 []) (hg : ∀ i, Gl (F.X i) x := by intro _; rfl) (hdb : (x == ("__debug__" : Str)) = false := by decide) : RE F (.Call (.Name x p) [] [] pos) (wCall sp asN) := by
  refine ⟨_, fun i => pg_call0 (G i).1 (G i).2 (F.gd i) (hg i) (hm i) (by rw [F.hK i]; exact hk) hb (F.tk i) hdb, ?_⟩
  have h := call_ok (F := F) (sp := sp) (ms := []) (n := 0) (m := 0) las_nil las_nil rfl rfl rfl (by decide)
  exact h
theorem re_callK (G : Kp F k f fd ps ms sp) (hm : ∀ i, (F.X i).mg x = some (.ref f)) (hk : PySem.W.keepIn F.K (.ref f) = true) (hb : Bd fd ps n ks) (ha : RAs F (e :: es) wa m1 i1) (hkw : RKs F kws wk m2 i2) (hg : ∀ i, Gl (F.X i) x := by intro _; rfl) (hms : m1 ++ m2 = ms := by rfl) (hn : m1.length = n := by rfl) (hm2 : m2.length = ks.length := by rfl) (nd : (i1 ++ i2).Nodup := by decide)
    (hall : ∀ i, (backToKw pos (keywordEach kws (F.X i).env)).all (·.1.isSome) = true := by intro _; rfl) (hks : ∀ i, (backToKw pos (keywordEach kws (F.X i).env)).filterMap (·.1) = ks := by intro _; rfl) (hdb : (x == ("__debug__" : Str)) = false := by decide)
    (he : ∀ i, starEach (e :: es) (F.X i).env = (false, eval e (F.X i).env) :: starEach es (F.X i).env := by intro _; rfl) (hpl : ∀ i, ((backTo pos (starEach (e :: es) (F.X i).env)).any (·.1) || (backToKw pos (keywordEach kws (F.X i).env)).any (·.1.isNone)) = false := by intro _; rfl) :
    RE F (.Call (.Name x p) (e :: es) kws pos) (wCall sp (asApp wa wk)) := by
  obtain ⟨t, a1, a2⟩ := ha
  obtain ⟨u, b1, b2⟩ := hkw
  exact ⟨_, fun i => pg_callK (G i).1 (G i).2 (F.gd i) (hg i) (hm i) (by rw [F.hK i]; exact hk) hb (F.tk i) (a1 i) (b1 i) (hall i) (hks i) hdb (he i) (hpl i), call_ok a2 b2 hms hn hm2 nd⟩
theorem re_callK0 (G : Kp F k f fd ps ms sp) (hm : ∀ i, (F.X i).mg x = some (.ref f)) (hk : PySem.W.keepIn F.K (.ref f) = true) (hb : Bd fd ps 0 ks) (hkw : RKs F kws wk ms i2) (hg : ∀ i, Gl (F.X i) x := by intro _; rfl) (hm2 : ms.length = ks.length := by rfl) (nd : i2.Nodup := by decide)
    (hall : ∀ i, (backToKw pos (keywordEach kws (F.X i).env)).all (·.1.isSome) = true := by intro _; rfl) (hks : ∀ i, (backToKw pos (keywordEach kws (F.X i).env)).filterMap (·.1) = ks := by intro _; rfl) (hdb : (x == ("__debug__" : Str)) = false := by decide)
    (hpl : ∀ i, ((backTo pos (starEach [] (F.X i).env)).any (·.1) || (backToKw pos (keywordEach kws (F.X i).env)).any (·.1.isNone)) = false := by intro _; rfl) :
    RE F (.Call (.Name x p) [] kws pos) (wCall sp (asApp asN wk)) := by
  obtain ⟨u, b1, b2⟩ := hkw
  exact ⟨_, fun i => pg_callK0 (G i).1 (G i).2 (F.gd i) (hg i) (hm i) (by rw [F.hK i]; exact hk) hb (F.tk i) (b1 i) (hall i) (hks i) hdb (hpl i), call_ok las_nil b2 rfl rfl hm2 (by simpa using nd)⟩
end
end
end Pu

set_option Elab.async false
set_option linter.all false
set_option maxRecDepth 100000
/-! Pu, operators and builtins over plain data. -/
namespace Pu
open PySem L2 PySem.Spec PyProof.Rows

/-! ### data as PyData -/
mutual
def D.py : D → PyData
  | .non => .none
  | .bl b => .bool b
  | .int i => .int i
  | .str x => .str x
  | .tup xs => .tuple (pys xs)
  | .lst xs => .list (pys xs)
  | _ => .none
def pys : List D → List PyData
  | [] => []
  | x :: xs => x.py :: pys xs
end
mutual
def D.plain : D → Bool
  | .non => true
  | .bl _ => true
  | .int _ => true
  | .str x => PyData.strOk x
  | .tup xs => plains xs
  | .lst xs => plains xs
  | _ => false
def plains : List D → Bool
  | [] => true
  | x :: xs => x.plain && plains xs
end
def D.good (d : D) : Bool := d.plain && decide (d.py.depth ≤ 64)
abbrev beq (x y : D) : Bool := PyData.eqv x.py y.py
mutual
theorem lay_of : ∀ d : D, d.plain = true → d.py.canLay0 = true
  | .non, _ => rfl
  | .bl _, _ => rfl
  | .int _, _ => rfl
  | .str x, h => h
  | .tup xs, h => lays_of xs h
  | .lst xs, h => lays_of xs h
  | .dic _ _, h => by cases h
  | .ins _ _ _, h => by cases h
  | .scr _, h => by cases h
  | .fn _, h => by cases h
  | .ttp _, h => by cases h
  | .at _ _, h => by cases h
theorem lays_of : ∀ ds : List D, plains ds = true → PyData.canLayAll0 (pys ds) = true
  | [], _ => rfl
  | x :: xs, h => by
    have h : x.plain = true ∧ plains xs = true := Bool.and_eq_true_iff.mp h
    exact Bool.and_eq_true_iff.mpr ⟨lay_of x h.1, lays_of xs h.2⟩
end
theorem good_plain {d : D} (h : d.good = true) : d.plain = true := (Bool.and_eq_true_iff.mp h).1
theorem good_shaped {d : D} (h : d.good = true) : SeqAt.shaped d.py = true := by
  have := Bool.and_eq_true_iff.mp h
  exact Bool.and_eq_true_iff.mpr ⟨lay_of d this.1, this.2⟩
section
variable {K : PySem.W.Frag} {B : Bs} {σ : L2.St} {H : Hp} {ρ : En} {Z : Hp} {v : V} {tmp : List (V × Sl)}
mutual
theorem dp_of (k : Le Z H) : ∀ (d : D) (v : V), Rp K Z v d → d.plain = true → Dp K H v d.py
  | .non, _, h, _ => by cases h; exact .non
  | .bl _, _, h, _ => by cases h; exact .bl _
  | .int _, _, h, _ => by cases h; exact .int _
  | .str _, _, h, _ => by cases h; exact .str _
  | .tup ds, _, h, p => by
    cases h with
    | tup h1 h2 => exact .tup (.inl (rd_le h1 k)) (dps_of k ds _ h2 p)
  | .lst ds, _, h, p => by
    cases h with
    | lst h1 h2 => exact .lst (.of (k _ _ h1)) (dps_of k ds _ h2 p)
  | .dic _ _, _, _, p => by cases p
  | .ins _ _ _, _, _, p => by cases p
  | .scr _, _, _, p => by cases p
  | .fn _, _, _, p => by cases p
  | .ttp _, _, _, p => by cases p
  | .at _ _, _, _, p => by cases p
theorem dps_of (k : Le Z H) : ∀ (ds : List D) (vs : List V), RpL K Z vs ds → plains ds = true → DpAll K H vs (pys ds)
  | [], _, h, _ => by cases h; exact .nil
  | d :: ds, _, h, p => by
    have p : d.plain = true ∧ plains ds = true := Bool.and_eq_true_iff.mp p
    cases h with
    | cons h1 h2 => exact .cons (dp_of k d _ h1 p.1) (dps_of k ds _ h2 p.2)
end
theorem dp_rd (S : St1 K B σ H ρ Z []) {d : D} (h : Rd1 K Z H v d) (p : d.plain = true) : Dp K H v d.py := dp_of (fun _ _ e => e) d v (rd1_le S h) p
theorem dps_rd (S : St1 K B σ H ρ Z []) {vs : List V} {ds : List D} (h : RpL K Z vs ds) (p : plains ds = true) : DpAll K H vs (pys ds) := dps_of S.sub ds vs h p

/-! ### operands -/
theorem rd_int {i : Int} (h : Rd1 K Z H v (.int i)) : v = .int i := by
  rcases h with h | ⟨a, o, rfl, _, r⟩
  · cases h; rfl
  · cases o <;> exact r.elim
theorem rd_bl {i : Bool} (h : Rd1 K Z H v (.bl i)) : v = .bl i := by
  rcases h with h | ⟨a, o, rfl, _, r⟩
  · cases h; rfl
  · cases o <;> exact r.elim
theorem rd_str {i : Str} (h : Rd1 K Z H v (.str i)) : v = .str i := by
  rcases h with h | ⟨a, o, rfl, _, r⟩
  · cases h; rfl
  · cases o <;> exact r.elim
theorem rd_non (h : Rd1 K Z H v .non) : v = .non := by
  rcases h with h | ⟨a, o, rfl, _, r⟩
  · cases h; rfl
  · cases o <;> exact r.elim
theorem rd_fn {i : Nat} (h : Rd1 K Z H v (.fn i)) : v = .ref i := by
  rcases h with h | ⟨a, o, rfl, _, r⟩
  · cases h; rfl
  · cases o <;> exact r.elim
theorem rd_tup (S : St1 K B σ H ρ Z tmp) {ds : List D} (h : Rd1 K Z H v (.tup ds)) : ∃ a vs, v = .ref a ∧ Rd Z a (.tup vs) ∧ Rd H a (.tup vs) ∧ RpL K Z vs ds := by
  rcases h with h | ⟨a, o, rfl, _, r⟩
  · cases h with
    | tup h1 h2 => exact ⟨_, _, rfl, h1, rd_le h1 S.sub, h2⟩
  · cases o <;> exact r.elim
theorem rd_lst (S : St1 K B σ H ρ Z tmp) {ds : List D} (h : Rd1 K Z H v (.lst ds)) : ∃ a vs, v = .ref a ∧ H a = some (.lst vs) ∧ RpL K Z vs ds := by
  rcases h with h | ⟨a, o, rfl, e, r⟩
  · cases h with
    | lst h1 h2 => exact ⟨_, _, rfl, S.sub _ _ h1, h2⟩
  · cases o with
    | lst vs => exact ⟨_, _, rfl, e, r⟩
    | _ => exact (show False from r).elim
theorem rd_dic (S : St1 K B σ H ρ Z tmp) {ks : List Ky} {ds : List D} (h : Rd1 K Z H v (.dic ks ds)) : ∃ a kvs, v = .ref a ∧ H a = some (.dK kvs) ∧ kvs.map (·.1) = ks ∧ RpL K Z (kvs.map (·.2)) ds := by
  rcases h with h | ⟨a, o, rfl, e, r⟩
  · cases h with
    | dic h1 h2 h3 => exact ⟨_, _, rfl, S.sub _ _ h1, h2, h3⟩
  · cases o with
    | dK kvs => exact ⟨_, _, rfl, e, r.1, r.2⟩
    | _ => exact (show False from r).elim
theorem rd_ins (S : St1 K B σ H ρ Z tmp) {C : Nat} {fs : List Str} {ds : List D} (h : Rd1 K Z H v (.ins C fs ds)) : ∃ a dx kvs, v = .ref a ∧ Z a = some (.ins C dx kvs) ∧ H a = some (.ins C dx kvs) ∧ kvs.map (·.1) = fs ∧ RpL K Z (kvs.map (·.2)) ds := by
  rcases h with h | ⟨a, o, rfl, _, r⟩
  · cases h with
    | ins h1 h2 h3 => exact ⟨_, _, _, rfl, h1, S.sub _ _ h1, h2, h3⟩
  · cases o <;> exact r.elim
/-- an instance, told by its address or not -/
@[simp] def insOf : D → Option (Nat × List Str × List D)
  | .ins C fs xs => some (C, fs, xs)
  | .at _ d => insOf d
  | _ => none
theorem rp_ins : ∀ (d : D) {v : V} {C : Nat} {fs : List Str} {ds : List D}, Rp K Z v d → insOf d = some (C, fs, ds) → ∃ a dx kvs, v = .ref a ∧ Z a = some (.ins C dx kvs) ∧ kvs.map (·.1) = fs ∧ RpL K Z (kvs.map (·.2)) ds
  | .ins C' fs' xs', _, _, _, _, h, e => by
    cases e
    cases h with
    | ins h1 h2 h3 => exact ⟨_, _, _, rfl, h1, h2, h3⟩
  | .at a d, _, _, _, _, h, e => by
    cases h with
    | «at» h => exact rp_ins d h e
  | .non, _, _, _, _, _, e => by cases e
  | .bl _, _, _, _, _, _, e => by cases e
  | .int _, _, _, _, _, _, e => by cases e
  | .str _, _, _, _, _, _, e => by cases e
  | .tup _, _, _, _, _, _, e => by cases e
  | .lst _, _, _, _, _, _, e => by cases e
  | .dic _ _, _, _, _, _, _, e => by cases e
  | .scr _, _, _, _, _, _, e => by cases e
  | .fn _, _, _, _, _, _, e => by cases e
  | .ttp _, _, _, _, _, _, e => by cases e
theorem rd_insOf (S : St1 K B σ H ρ Z tmp) {d : D} {C : Nat} {fs : List Str} {ds : List D} (h : Rd1 K Z H v d) (e : insOf d = some (C, fs, ds)) : ∃ a dx kvs, v = .ref a ∧ Z a = some (.ins C dx kvs) ∧ H a = some (.ins C dx kvs) ∧ kvs.map (·.1) = fs ∧ RpL K Z (kvs.map (·.2)) ds := by
  rcases h with h | ⟨a, o, rfl, _, r⟩
  · obtain ⟨a, dx, kvs, rfl, h1, h2, h3⟩ := rp_ins d h e
    exact ⟨a, dx, kvs, rfl, h1, S.sub _ _ h1, h2, h3⟩
  · cases o <;> cases d <;> first | exact r.elim | cases e
theorem rd_scr (S : St1 K B σ H ρ Z tmp) {ns : List Int} (h : Rd1 K Z H v (.scr ns)) : ∃ a, v = .ref a ∧ SqL K H a (ns.map V.int) := by
  rcases h with h | ⟨a, o, rfl, _, r⟩
  · cases h with
    | scr h1 => exact ⟨_, rfl, sqL_le h1 S.sub⟩
  · cases o <;> exact r.elim
/-- a sequence -/
@[simp] def seqD : D → Option (List D)
  | .lst ds => some ds
  | .tup ds => some ds
  | .scr ns => some (ns.map D.int)
  | _ => none
theorem rd_seq (S : St1 K B σ H ρ Z tmp) {d : D} {ds : List D} (h : Rd1 K Z H v d) (e : seqD d = some ds) : ∃ a vs, v = .ref a ∧ (SqL K H a vs ∨ SqT K H a vs) ∧ RpL K Z vs ds := by
  cases d with
  | lst xs =>
    cases e
    obtain ⟨a, vs, rfl, e, r⟩ := rd_lst S h
    exact ⟨a, vs, rfl, .inl (.of e), r⟩
  | tup xs =>
    cases e
    obtain ⟨a, vs, rfl, _, e, r⟩ := rd_tup S h
    exact ⟨a, vs, rfl, .inr (.inl e), r⟩
  | scr ns =>
    cases e
    obtain ⟨a, rfl, e⟩ := rd_scr S h
    exact ⟨a, _, rfl, .inl e, RpL.ints ns⟩
  | _ => cases e
/-- a list, or the script -/
@[simp] def lstD : D → Option (List D)
  | .lst ds => some ds
  | .scr ns => some (ns.map D.int)
  | _ => none
theorem rd_lstD (S : St1 K B σ H ρ Z tmp) {d : D} {ds : List D} (h : Rd1 K Z H v d) (e : lstD d = some ds) : ∃ a vs, v = .ref a ∧ SqL K H a vs ∧ RpL K Z vs ds := by
  cases d with
  | lst xs =>
    cases e
    obtain ⟨a, vs, rfl, e, r⟩ := rd_lst S h
    exact ⟨a, vs, rfl, .of e, r⟩
  | scr ns =>
    cases e
    obtain ⟨a, rfl, e⟩ := rd_scr S h
    exact ⟨a, _, rfl, e, RpL.ints ns⟩
  | _ => cases e
end

/-! ### dicts -/
@[simp] def lookD : List Ky → List D → Ky → Option D
  | k' :: ks, x :: xs, k => if k' = k then some x else lookD ks xs k
  | _, _, _ => none
/-- a key -/
@[simp] def keyD : D → Option Ky
  | .int i => some (.inl i)
  | .str x => some (.inr x)
  | _ => none
theorem keyD_v {K : PySem.W.Frag} {Z H : Hp} {v : V} {d : D} {k : Ky} (h : Rd1 K Z H v d) (e : keyD d = some k) : v = kV k := by
  cases d with
  | int i => cases e; exact rd_int h
  | str x => cases e; exact rd_str h
  | _ => cases e
theorem look_val {K : PySem.W.Frag} {Z : Hp} (k : Ky) : ∀ {kvs : List (Key × V)} {ds : List D}, RpL K Z (kvs.map (·.2)) ds → (match lookD (kvs.map (·.1)) ds k with
  | some d => ∃ v, valV kvs k = some v ∧ Rp K Z v d
  | none => valV kvs k = none)
  | [], ds, h => by cases h; rfl
  | (k', v) :: kvs, ds, h => by
    cases h with
    | cons h1 h2 =>
      rename_i d ds
      show (match (if k' = k then some d else lookD (kvs.map (·.1)) ds k) with
        | some d => ∃ v', valV ((k', v) :: kvs) k = some v' ∧ Rp K Z v' d
        | none => valV ((k', v) :: kvs) k = none)
      by_cases e : k' = k
      · rw [if_pos e]
        exact ⟨v, valV_pos e, h1⟩
      · rw [if_neg e, valV_neg e]
        exact look_val k h2
theorem look_some {K : PySem.W.Frag} {Z : Hp} {k : Ky} {kvs : List (Key × V)} {ds : List D} {d : D} (h : RpL K Z (kvs.map (·.2)) ds) (e : lookD (kvs.map (·.1)) ds k = some d) : ∃ v, valV kvs k = some v ∧ Rp K Z v d := by
  have := look_val k h
  rw [e] at this
  exact this
theorem look_is {K : PySem.W.Frag} {Z : Hp} {k : Ky} {kvs : List (Key × V)} {ds : List D} (h : RpL K Z (kvs.map (·.2)) ds) : (valV kvs k).isSome = (lookD (kvs.map (·.1)) ds k).isSome := by
  have := look_val k h
  cases e : lookD (kvs.map (·.1)) ds k with
  | none => rw [e] at this; rw [show valV kvs k = none from this]; rfl
  | some d => rw [e] at this; obtain ⟨v, h1, _⟩ := (show ∃ v, valV kvs k = some v ∧ Rp K Z v d from this); rw [h1]; rfl
theorem op_dIn {X : Cx} (hu : X.A.units + 1 < cLine) : OpR X (compareOp .In) (fun y x H Q => ∃ a o, x = .ref a ∧ DGet H a y o ∧ Q (.bl o.isSome) H) := by
  rintro pins s σ H y x v u Q I ry rx ⟨a, o, rfl, g, q⟩
  obtain rfl : u = Value.ref a := rx
  exact d_in hu I g ry fun s3 I3 => ⟨.bl o.isSome, H, I3, rfl, q⟩
theorem op_dNotIn {X : Cx} (hu : X.A.units + 1 < cLine) : OpR X (compareOp .NotIn) (fun y x H Q => ∃ a o, x = .ref a ∧ DGet H a y o ∧ Q (.bl (!o.isSome)) H) := by
  rintro pins s σ H y x v u Q I ry rx ⟨a, o, rfl, g, q⟩
  obtain rfl : u = Value.ref a := rx
  exact d_notIn hu I g ry fun s3 I3 => ⟨.bl (!o.isSome), H, I3, rfl, q⟩

/-! ### operators on ints -/
section
variable {F : Fm}
@[simp] def kI (C : Int → Int → Prop) (g : Int → Int → Int) : K2 := fun x y Q => match x with
  | .int i => (match y with
    | .int j => C i j ∧ Q (.fz (.int (g i j)))
    | _ => False)
  | _ => False
@[simp] def kIb (g : Int → Int → Bool) : K2 := fun x y Q => match x with
  | .int i => (match y with
    | .int j => Q (.fz (.bl (g i j)))
    | _ => False)
  | _ => False
theorem kI_of {C : Int → Int → Prop} {g : Int → Int → Int} {x y : D} {Q : Sl → Prop} (h : kI C g x y Q) : ∃ i j, x = .int i ∧ y = .int j ∧ C i j ∧ Q (.fz (.int (g i j))) := by
  cases x with
  | int i =>
    cases y with
    | int j => exact ⟨i, j, rfl, rfl, h⟩
    | _ => exact (show False from h).elim
  | _ => exact (show False from h).elim
theorem kIb_of {g : Int → Int → Bool} {x y : D} {Q : Sl → Prop} (h : kIb g x y Q) : ∃ i j, x = .int i ∧ y = .int j ∧ Q (.fz (.bl (g i j))) := by
  cases x with
  | int i =>
    cases y with
    | int j => exact ⟨i, j, rfl, rfl, h⟩
    | _ => exact (show False from h).elim
  | _ => exact (show False from h).elim
theorem od_I {f : Value → Value → Sem Value} {C : Int → Int → Prop} {g : Int → Int → Int} (h : ∀ i, OpR (F.X i) f (rI C fun i j => .int (g i j))) : OpD F f (kI C g) :=
  ⟨_, h, fun B σ H ρ Z x y dx dy Q Q' S rx ry hk q => by
    obtain ⟨i, j, rfl, rfl, hc, hq⟩ := kI_of hk
    exact ⟨i, j, rd_int rx, rd_int ry, hc, q _ _ _ _ (S.have (.int _)) hq⟩⟩
theorem od_I0 {f : Value → Value → Sem Value} {g : Int → Int → Int} (h : ∀ i, OpR (F.X i) f (rI0 fun i j => .int (g i j))) : OpD F f (kI (fun _ _ => True) g) :=
  ⟨_, h, fun B σ H ρ Z x y dx dy Q Q' S rx ry hk q => by
    obtain ⟨i, j, rfl, rfl, hc, hq⟩ := kI_of hk
    exact ⟨i, j, rd_int rx, rd_int ry, q _ _ _ _ (S.have (.int _)) hq⟩⟩
theorem od_Ib {f : Value → Value → Sem Value} {g : Int → Int → Bool} (h : ∀ i, OpR (F.X i) f (rI0 fun i j => .bl (g i j))) : OpD F f (kIb g) :=
  ⟨_, h, fun B σ H ρ Z x y dx dy Q Q' S rx ry hk q => by
    obtain ⟨i, j, rfl, rfl, hq⟩ := kIb_of hk
    exact ⟨i, j, rd_int rx, rd_int ry, q _ _ _ _ (S.have (.bl _)) hq⟩⟩
def CPw (i j : Int) : Prop := 0 ≤ j ∧ (Builtin.Int.intBits i : Int) * j ≤ 2 ^ 27
abbrev kSub : K2 := kI (fun _ _ => True) fun i j => i - j
abbrev kMod : K2 := kI (fun _ j => 0 < j) fun i j => i % j
abbrev kModN : K2 := kI (fun _ j => j ≠ 0) fun i j => i.fmod j
abbrev kFdiv : K2 := kI CDiv fun i j => i / j
abbrev kFdivN : K2 := kI CDivN fun i j => i.fdiv j
abbrev kPow : K2 := kI CPw fun i j => i ^ j.toNat
abbrev kShl : K2 := kI CPow fun i j => i * 2 ^ j.toNat
abbrev kShr : K2 := kI (fun _ j => 0 ≤ j) fun i j => i / 2 ^ j.toNat
abbrev kAnd : K2 := kI (fun _ _ => True) Builtin.bitAnd
abbrev kOr : K2 := kI (fun _ _ => True) Builtin.bitOr
abbrev kXor : K2 := kI (fun _ _ => True) Builtin.bitXor
abbrev kLe : K2 := kIb fun i j => decide (i ≤ j)
abbrev kGt : K2 := kIb fun i j => decide (j < i)
abbrev kGe : K2 := kIb fun i j => decide (j ≤ i)
theorem od_sub : OpD F (binaryOp .Sub) kSub := od_I0 fun _ => op_sub
theorem od_mod : OpD F (binaryOp .Mod) kMod := od_I fun _ => op_mod
theorem od_modN : OpD F (binaryOp .Mod) kModN := od_I fun _ => op_modN
theorem od_fdiv : OpD F (binaryOp .FloorDiv) kFdiv := od_I fun _ => op_fdiv
theorem od_fdivN : OpD F (binaryOp .FloorDiv) kFdivN := od_I fun _ => op_fdivN
theorem od_pow : OpD F (binaryOp .Pow) kPow := od_I fun _ => opI fun _ _ _ _ _ _ _ hc q => pow_int hc.1 hc.2 q
theorem od_shl : OpD F (binaryOp .LShift) kShl := od_I fun _ => op_shl
theorem od_shr : OpD F (binaryOp .RShift) kShr := od_I fun _ => op_shr
theorem od_and : OpD F (binaryOp .BitAnd) kAnd := od_I0 fun _ => op_and
theorem od_or : OpD F (binaryOp .BitOr) kOr := od_I0 fun _ => op_or
theorem od_xor : OpD F (binaryOp .BitXor) kXor := od_I0 fun _ => op_xor
theorem od_le : OpD F (compareOp .LtE) kLe := od_Ib fun _ => op_le
theorem od_gt : OpD F (compareOp .Gt) kGt := od_Ib fun _ => op_gt
theorem od_ge : OpD F (compareOp .GtE) kGe := od_Ib fun _ => op_ge
@[simp] def kLt : K2 := fun x y Q => match x with
  | .int i => (match y with
    | .int j => Q (.fz (.bl (decide (i < j))))
    | _ => False)
  | .str i => (match y with
    | .str j => Q (.fz (.bl (decide (i.cps.toList < j.cps.toList))))
    | _ => False)
  | _ => False
theorem od_lt : OpD F (compareOp .Lt) kLt := ⟨_, fun _ => op_lt.or op_lt_str, fun B σ H ρ Z x y dx dy Q Q' S rx ry hk q => by
  cases dx with
  | int i =>
    cases dy with
    | int j => exact .inl ⟨i, j, rd_int rx, rd_int ry, q _ _ _ _ (S.have (.bl _)) hk⟩
    | _ => exact (show False from hk).elim
  | str i =>
    cases dy with
    | str j => exact .inr ⟨i, j, rd_str rx, rd_str ry, q _ _ _ _ (S.have (.bl _)) hk⟩
    | _ => exact (show False from hk).elim
  | _ => exact (show False from hk).elim⟩

/-! ### + and * -/
@[simp] def kAdd : K2 := fun x y Q => match x with
  | .int i => (match y with
    | .int j => Q (.fz (.int (i + j)))
    | _ => False)
  | .str i => (match y with
    | .str j => i.length + j.length ≤ sizeLine ∧ Q (.fz (.str (i ++ j)))
    | _ => False)
  | .lst i => (match y with
    | .lst j => i.length + j.length ≤ sizeLine ∧ Q (.ow (.lst (i ++ j)))
    | _ => False)
  | .tup i => (match y with
    | .tup j => i.length + j.length ≤ sizeLine ∧ Q (.fz (.tup (i ++ j)))
    | _ => False)
  | _ => False
theorem od_add : OpD F (binaryOp .Add) kAdd := by
  refine ⟨fun x y H Q => (((∃ i j, x = .int i ∧ y = .int j ∧ Q (.int (i + j)) H) ∨ (∃ i j, x = .str i ∧ y = .str j ∧ i.length + j.length ≤ sizeLine ∧ Q (.str (i ++ j)) H)) ∨ rCat x y H Q) ∨ rCatA F.K x y H Q, fun i => ?_, fun B σ H ρ Z x y dx dy Q Q' S rx ry hk q => ?_⟩
  · have h := ((op_add (X := F.X i)).or op_add_str).or op_cat |>.or op_catA
    rw [F.hK i] at h
    exact h
  · cases dx with
    | int i =>
      cases dy with
      | int j => exact .inl (.inl (.inl ⟨i, j, rd_int rx, rd_int ry, q _ _ _ _ (S.have (.int _)) hk⟩))
      | _ => exact (show False from hk).elim
    | str i =>
      cases dy with
      | str j => exact .inl (.inl (.inr ⟨i, j, rd_str rx, rd_str ry, hk.1, q _ _ _ _ (S.have (.str _)) hk.2⟩))
      | _ => exact (show False from hk).elim
    | lst i =>
      cases dy with
      | lst j =>
        obtain ⟨a, vs, rfl, ha, ra⟩ := rd_lst S rx
        obtain ⟨b, us, rfl, hb, rb⟩ := rd_lst S ry
        exact .inl (.inr ⟨a, b, vs, us, rfl, rfl, ha, hb, by rw [ra.len, rb.len]; exact hk.1, fun p hp => q _ _ _ _ (S.alloc1 (o := .lst _) (d := .lst _) hp (ra.app rb)) hk.2⟩)
      | _ => exact (show False from hk).elim
    | tup i =>
      cases dy with
      | tup j =>
        obtain ⟨a, vs, rfl, za, ha, ra⟩ := rd_tup S rx
        obtain ⟨b, us, rfl, zb, hb, rb⟩ := rd_tup S ry
        refine .inr ⟨a, b, vs, us, rfl, rfl, .inl ha, .inl hb, by rw [ra.len, rb.len]; exact hk.1, fun h0 => ?_, fun _ h0 => ?_, fun _ _ p hp => ?_⟩
        · subst h0
          cases ra
          exact q _ _ _ _ (S.have (.tup zb rb)) hk.2
        · subst h0
          cases rb
          exact q _ _ _ _ (S.have (.tup za ra)) (by have := hk.2; rw [List.append_nil] at this; exact this)
        · obtain ⟨S2, le2⟩ := S.allocZ (o := .tup (vs ++ us)) hp
          exact q _ _ _ _ (S2.have (.tup (.of upd_same) ((RpL.le le2 _ _ ra).app (RpL.le le2 _ _ rb)))) hk.2
      | _ => exact (show False from hk).elim
    | _ => exact (show False from hk).elim
@[simp] def kMul : K2 := fun x y Q => match x with
  | .int i => (match y with
    | .int j => CMul i j ∧ Q (.fz (.int (i * j)))
    | _ => False)
  | .lst i => (match y with
    | .int j => (-(2 ^ 63) ≤ j ∧ j < 2 ^ 63) ∧ i.length * j.toNat ≤ sizeLine ∧ Q (.ow (.lst (List.replicate j.toNat i).flatten))
    | _ => False)
  | _ => False
theorem RpL.rep {K : PySem.W.Frag} {Z : Hp} {vs : List V} {ds : List D} (r : RpL K Z vs ds) : ∀ n : Nat, RpL K Z (List.replicate n vs).flatten (List.replicate n ds).flatten
  | 0 => .nil
  | n + 1 => by rw [List.replicate_succ, List.replicate_succ, List.flatten_cons, List.flatten_cons]; exact r.app (RpL.rep r n)
theorem od_mul : OpD F (binaryOp .Mult) kMul := ⟨_, fun _ => op_mul.or op_rep, fun B σ H ρ Z x y dx dy Q Q' S rx ry hk q => by
  cases dx with
  | int i =>
    cases dy with
    | int j => exact .inl ⟨i, j, rd_int rx, rd_int ry, hk.1, q _ _ _ _ (S.have (.int _)) hk.2⟩
    | _ => exact (show False from hk).elim
  | lst i =>
    cases dy with
    | int j =>
      obtain ⟨a, vs, rfl, ha, ra⟩ := rd_lst S rx
      exact .inr ⟨a, j, vs, rfl, rd_int ry, ha, hk.1.1, hk.1.2, by rw [ra.len]; exact hk.2.1, fun p hp => q _ _ _ _ (S.alloc1 (o := .lst _) (d := .lst _) hp (ra.rep _)) hk.2.2⟩
    | _ => exact (show False from hk).elim
  | _ => exact (show False from hk).elim⟩
@[simp] def kU (g : Int → Int) : K1 := fun x Q => match x with
  | .int i => Q (.fz (.int (g i)))
  | _ => False
abbrev kNeg : K1 := kU fun i => -i
abbrev kInv : K1 := kU Builtin.bitNot
theorem ud_U {f : Value → Sem Value} {g : Int → Int} (h : ∀ i, UnR (F.X i) f (rU fun i => .int (g i))) : UnD F f (kU g) := ⟨_, h, fun B σ H ρ Z x dx Q Q' S rx hk q => by
  cases dx with
  | int i => exact ⟨i, rd_int rx, q _ _ _ _ (S.have (.int _)) hk⟩
  | _ => exact (show False from hk).elim⟩
theorem ud_neg : UnD F (unaryOp .USub) kNeg := ud_U fun _ => un_neg
theorem ud_inv : UnD F (unaryOp .Invert) kInv := ud_U fun _ => un_inv

/-! ### ==, !=, in -/
@[simp] def bothGood (x y : D) (P : Prop) : Prop := x.good = true ∧ y.good = true ∧ P
@[simp] def kEq : K2 := fun x y Q => match x with
  | .int i => (match y with
    | .int j => Q (.fz (.bl (i == j)))
    | y => bothGood (.int i) y (Q (.fz (.bl (beq (.int i) y)))))
  | .str i => (match y with
    | .str j => Q (.fz (.bl (decide (i = j))))
    | y => bothGood (.str i) y (Q (.fz (.bl (beq (.str i) y)))))
  | x => bothGood x y (Q (.fz (.bl (beq x y))))
@[simp] def kNe : K2 := fun x y Q => match x with
  | .int i => (match y with
    | .int j => Q (.fz (.bl (!(i == j))))
    | y => bothGood (.int i) y (Q (.fz (.bl (!beq (.int i) y)))))
  | .str i => (match y with
    | .str j => Q (.fz (.bl (!decide (i = j))))
    | y => bothGood (.str i) y (Q (.fz (.bl (!beq (.str i) y)))))
  | x => bothGood x y (Q (.fz (.bl (!beq x y))))
theorem un64 {n : Nat} (h : n + 80 < cLine) : n + 64 < cLine := by omega
theorem un1 {n : Nat} (h : n + 80 < cLine) : n + 1 < cLine := by omega
theorem un65 {n : Nat} (h : n + 80 < cLine) : n + 65 < cLine := by omega
theorem kEq_cases {x y : D} {Q : Sl → Prop} (h : kEq x y Q) : (∃ i j, x = .int i ∧ y = .int j ∧ Q (.fz (.bl (i == j)))) ∨ (∃ i j, x = .str i ∧ y = .str j ∧ Q (.fz (.bl (decide (i = j))))) ∨ bothGood x y (Q (.fz (.bl (beq x y)))) := by
  cases x with
  | int i =>
    cases y with
    | int j => exact .inl ⟨i, j, rfl, rfl, h⟩
    | _ => exact .inr (.inr h)
  | str i =>
    cases y with
    | str j => exact .inr (.inl ⟨i, j, rfl, rfl, h⟩)
    | _ => exact .inr (.inr h)
  | _ => exact .inr (.inr h)
theorem kNe_cases {x y : D} {Q : Sl → Prop} (h : kNe x y Q) : (∃ i j, x = .int i ∧ y = .int j ∧ Q (.fz (.bl (!(i == j))))) ∨ (∃ i j, x = .str i ∧ y = .str j ∧ Q (.fz (.bl (!decide (i = j))))) ∨ bothGood x y (Q (.fz (.bl (!beq x y)))) := by
  cases x with
  | int i =>
    cases y with
    | int j => exact .inl ⟨i, j, rfl, rfl, h⟩
    | _ => exact .inr (.inr h)
  | str i =>
    cases y with
    | str j => exact .inr (.inl ⟨i, j, rfl, rfl, h⟩)
    | _ => exact .inr (.inr h)
  | _ => exact .inr (.inr h)
theorem od_eq : OpD F (compareOp .Eq) kEq := by
  refine ⟨fun x y H Q => rEq x y H Q ∨ rEqD F.K x y H Q, fun i => ?_, fun B σ H ρ Z x y dx dy Q Q' S rx ry hk q => ?_⟩
  · have h := (op_eq (X := F.X i)).or (op_eqD (un64 (F.un i)))
    rw [F.hK i] at h
    exact h
  · rcases kEq_cases hk with ⟨i, j, rfl, rfl, hq⟩ | ⟨i, j, rfl, rfl, hq⟩ | ⟨g1, g2, hq⟩
    · rw [rd_int rx, rd_int ry]
      exact .inl ⟨rfl, by rw [dec_int]; exact q _ _ _ _ (S.have (.bl _)) hq⟩
    · rw [rd_str rx, rd_str ry]
      refine .inl ⟨rfl, ?_⟩
      have e : decide (V.str i = V.str j) = decide (i = j) := by
        by_cases h : i = j
        · simp [h]
        · simp [h]
      rw [e]
      exact q _ _ _ _ (S.have (.bl _)) hq
    · exact .inr ⟨_, _, dp_rd S rx (good_plain g1), dp_rd S ry (good_plain g2), good_shaped g1, good_shaped g2, q _ _ _ _ (S.have (.bl _)) hq⟩
theorem od_ne : OpD F (compareOp .NotEq) kNe := by
  refine ⟨fun x y H Q => rNe x y H Q ∨ rNeD F.K x y H Q, fun i => ?_, fun B σ H ρ Z x y dx dy Q Q' S rx ry hk q => ?_⟩
  · have h := (op_ne (X := F.X i)).or (op_neD (un64 (F.un i)))
    rw [F.hK i] at h
    exact h
  · rcases kNe_cases hk with ⟨i, j, rfl, rfl, hq⟩ | ⟨i, j, rfl, rfl, hq⟩ | ⟨g1, g2, hq⟩
    · rw [rd_int rx, rd_int ry]
      exact .inl ⟨rfl, by rw [dec_int]; exact q _ _ _ _ (S.have (.bl _)) hq⟩
    · rw [rd_str rx, rd_str ry]
      refine .inl ⟨rfl, ?_⟩
      have e : decide (V.str i = V.str j) = decide (i = j) := by
        by_cases h : i = j
        · simp [h]
        · simp [h]
      rw [e]
      exact q _ _ _ _ (S.have (.bl _)) hq
    · exact .inr ⟨_, _, dp_rd S rx (good_plain g1), dp_rd S ry (good_plain g2), good_shaped g1, good_shaped g2, q _ _ _ _ (S.have (.bl _)) hq⟩
/-- in a tuple -/
def rInT (K : PySem.W.Frag) : R2 := fun x y H Q => ∃ d ds, Dp K H x d ∧ Dp K H y (.tuple ds) ∧ SeqAt.shaped d = true ∧ SeqAt.shaped (.tuple ds) = true ∧ Q (.bl (ds.any fun z => PyData.eqv z d)) H
def rNotInT (K : PySem.W.Frag) : R2 := fun x y H Q => ∃ d ds, Dp K H x d ∧ Dp K H y (.tuple ds) ∧ SeqAt.shaped d = true ∧ SeqAt.shaped (.tuple ds) = true ∧ Q (.bl (!ds.any fun z => PyData.eqv z d)) H
theorem op_inT {X : Cx} (hu : X.A.units + 65 < cLine) : OpR X (compareOp .In) (rInT X.K) := by
  rintro pins s σ H x y v u Q I rx ry ⟨d, ds, hd, he, sd, se, q⟩
  obtain ⟨as, r1⟩ := Dp.reads I d x v hd rx
  obtain ⟨bs, r2⟩ := Dp.reads I (.tuple ds) y u he ry
  exact SeqAt.in_tuple_reads r2 r1 (SeqAt.canLay_of_shaped se) (SeqAt.canLay_of_shaped sd) (room_in_shaped sd hu) ⟨.bl _, H, I, rfl, q⟩
theorem op_notInT {X : Cx} (hu : X.A.units + 65 < cLine) : OpR X (compareOp .NotIn) (rNotInT X.K) := by
  rintro pins s σ H x y v u Q I rx ry ⟨d, ds, hd, he, sd, se, q⟩
  obtain ⟨as, r1⟩ := Dp.reads I d x v hd rx
  obtain ⟨bs, r2⟩ := Dp.reads I (.tuple ds) y u he ry
  exact SeqAt.notIn_tuple_reads r2 r1 (SeqAt.canLay_of_shaped se) (SeqAt.canLay_of_shaped sd) (room_in_shaped sd hu) ⟨.bl _, H, I, rfl, q⟩
abbrev subS (i j : Str) : Bool := !(Builtin.Str.occurrences j i 0 j.length 1).isEmpty
@[simp] def kIn : K2 := fun x y Q => match y with
  | .dic ks xs => (match keyD x with
    | some k => Q (.fz (.bl (lookD ks xs k).isSome))
    | none => False)
  | .lst ds => bothGood x (.lst ds) (Q (.fz (.bl (ds.any fun z => beq z x))))
  | .tup ds => bothGood x (.tup ds) (Q (.fz (.bl (ds.any fun z => beq z x))))
  | .str j => (match x with
    | .str i => Q (.fz (.bl (subS i j)))
    | _ => False)
  | _ => False
@[simp] def kNotIn : K2 := fun x y Q => match y with
  | .dic ks xs => (match keyD x with
    | some k => Q (.fz (.bl (!(lookD ks xs k).isSome)))
    | none => False)
  | .lst ds => bothGood x (.lst ds) (Q (.fz (.bl (!ds.any fun z => beq z x))))
  | .tup ds => bothGood x (.tup ds) (Q (.fz (.bl (!ds.any fun z => beq z x))))
  | .str j => (match x with
    | .str i => Q (.fz (.bl (!subS i j)))
    | _ => False)
  | _ => False
theorem any_pys (x : D) : ∀ ds : List D, ((pys ds).any fun z => PyData.eqv z x.py) = ds.any fun z => beq z x
  | [] => rfl
  | d :: ds => by
    show (PyData.eqv d.py x.py || (pys ds).any _) = _
    rw [any_pys x ds]
    rfl
theorem od_in : OpD F (compareOp .In) kIn := by
  refine ⟨fun x y H Q => (((∃ i j, x = .str i ∧ y = .str j ∧ Q (.bl (subS i j)) H) ∨ rInD F.K x y H Q) ∨ rInT F.K x y H Q) ∨ (∃ a o, y = .ref a ∧ DGet H a x o ∧ Q (.bl o.isSome) H), fun i => ?_, fun B σ H ρ Z x y dx dy Q Q' S rx ry hk q => ?_⟩
  · have h := (((op_in_str (X := F.X i)).or (op_inD (un65 (F.un i)))).or (op_inT (un65 (F.un i)))).or (op_dIn (un1 (F.un i)))
    rw [F.hK i] at h
    exact h
  · cases dy with
    | dic ks xs =>
      obtain ⟨p, kvs, rfl, e, ek, r⟩ := rd_dic S ry
      cases ekey : keyD dx with
      | none => unfold kIn at hk; simp only [ekey] at hk
      | some k =>
        unfold kIn at hk
        simp only [ekey] at hk
        refine .inr ⟨p, valV kvs k, rfl, by rw [keyD_v rx ekey]; exact .k e, q _ _ _ _ (S.have (.bl _)) ?_⟩
        rw [look_is r, ek]
        exact hk
    | lst ds =>
      obtain ⟨g1, g2, hq⟩ := (show bothGood _ _ _ from hk)
      exact .inl (.inl (.inr ⟨_, pys ds, dp_rd S rx (good_plain g1), dp_rd S ry (good_plain g2), good_shaped g1, good_shaped g2, by rw [any_pys]; exact q _ _ _ _ (S.have (.bl _)) hq⟩))
    | tup ds =>
      obtain ⟨g1, g2, hq⟩ := (show bothGood _ _ _ from hk)
      exact .inl (.inr ⟨_, pys ds, dp_rd S rx (good_plain g1), dp_rd S ry (good_plain g2), good_shaped g1, good_shaped g2, by rw [any_pys]; exact q _ _ _ _ (S.have (.bl _)) hq⟩)
    | str j =>
      cases dx with
      | str i => exact .inl (.inl (.inl ⟨i, j, rd_str rx, rd_str ry, q _ _ _ _ (S.have (.bl _)) hk⟩))
      | _ => exact (show False from hk).elim
    | _ => exact (show False from hk).elim
theorem od_notIn : OpD F (compareOp .NotIn) kNotIn := by
  refine ⟨fun x y H Q => (((∃ i j, x = .str i ∧ y = .str j ∧ Q (.bl (!subS i j)) H) ∨ rNotInD F.K x y H Q) ∨ rNotInT F.K x y H Q) ∨ (∃ a o, y = .ref a ∧ DGet H a x o ∧ Q (.bl (!o.isSome)) H), fun i => ?_, fun B σ H ρ Z x y dx dy Q Q' S rx ry hk q => ?_⟩
  · have h := (((op_notin_str (X := F.X i)).or (op_notInD (un65 (F.un i)))).or (op_notInT (un65 (F.un i)))).or (op_dNotIn (un1 (F.un i)))
    rw [F.hK i] at h
    exact h
  · cases dy with
    | dic ks xs =>
      obtain ⟨p, kvs, rfl, e, ek, r⟩ := rd_dic S ry
      cases ekey : keyD dx with
      | none => unfold kNotIn at hk; simp only [ekey] at hk
      | some k =>
        unfold kNotIn at hk
        simp only [ekey] at hk
        refine .inr ⟨p, valV kvs k, rfl, by rw [keyD_v rx ekey]; exact .k e, q _ _ _ _ (S.have (.bl _)) ?_⟩
        rw [look_is r, ek]
        exact hk
    | lst ds =>
      obtain ⟨g1, g2, hq⟩ := (show bothGood _ _ _ from hk)
      exact .inl (.inl (.inr ⟨_, pys ds, dp_rd S rx (good_plain g1), dp_rd S ry (good_plain g2), good_shaped g1, good_shaped g2, by rw [any_pys]; exact q _ _ _ _ (S.have (.bl _)) hq⟩))
    | tup ds =>
      obtain ⟨g1, g2, hq⟩ := (show bothGood _ _ _ from hk)
      exact .inl (.inr ⟨_, pys ds, dp_rd S rx (good_plain g1), dp_rd S ry (good_plain g2), good_shaped g1, good_shaped g2, by rw [any_pys]; exact q _ _ _ _ (S.have (.bl _)) hq⟩)
    | str j =>
      cases dx with
      | str i => exact .inl (.inl (.inl ⟨i, j, rd_str rx, rd_str ry, q _ _ _ _ (S.have (.bl _)) hk⟩))
      | _ => exact (show False from hk).elim
    | _ => exact (show False from hk).elim
end
end Pu

set_option Elab.async false
set_option linter.all false
set_option maxRecDepth 100000
/-! Pu, calls of builtins, subscripts, slices, methods that only read. -/
namespace Pu
open PySem L2 PySem.Spec PyProof.Rows

section
variable {F : Fm} {e a b : Expr} {es : List Expr} {pos p : Pos} {x : Str} {id T : String}
theorem LRs_call {r : List V → Hp → VK → Prop} {t : TA} {k : KN} {wa : WRs} (hr : ∀ B σ H ρ Z xs ds Q Q', St1 F.K B σ H ρ Z [] → Paired (Rd1 F.K Z H) xs ds → k ds Q' → Rc F B σ ρ Q' Q → r xs H Q) (ha : LRs F t wa) : LE F (tCB r t) (wB k wa) := by
  refine LE.of fun B σ H ρ Z Q Q' E S X hw q => ha B σ H ρ Z _ _ E S X hw fun xs rs H1 ρ1 Z1 S1 le1 o1 hw => ?_
  obtain ⟨ds, e1, hk⟩ := withN_of hw
  exact hr B σ H1 ρ1 Z1 xs ds Q _ S1 (S1.reads o1 e1) hk fun v s H' Z' S' hq => q v s H' ρ1 Z' S' hq
/-- f(e, ..), f a builtin -/
theorem re_b {k : KN} {wa : WRs} (hc : CallD F (.builtin id) k) (hm : ∀ i, (F.X i).mg x = none) (ha : RRs F (e :: es) wa) (hv : bootBuiltins x = some (.builtin id) := by rfl) (hg : ∀ i, Gl (F.X i) x := by intro _; rfl) (hn : x ≠ "__name__" := by decide) (hdb : (x == ("__debug__" : Str)) = false := by decide)
    (he : ∀ i, starEach (e :: es) (F.X i).env = (false, eval e (F.X i).env) :: starEach es (F.X i).env := by intro _; rfl) (hpl : ∀ i, (backTo pos (starEach es (F.X i).env)).any (·.1) = false := by intro _; rfl) : RE F (.Call (.Name x p) (e :: es) [] pos) (wB k wa) := by
  obtain ⟨r, h1, h2⟩ := hc
  obtain ⟨t, a1, a2⟩ := ha
  exact ⟨_, fun i => pe_callB (h1 i) (hg i) (hm i) hv (a1 i) hn hdb (he i) (hpl i), LRs_call h2 a2⟩
/-- T(e, ..), T a type -/
theorem re_ty {k : KN} {wa : WRs} (hc : CallD F (.type T) k) (hm : ∀ i, (F.X i).mg x = none) (ha : RRs F (e :: es) wa) (hv : bootBuiltins x = some (.type T) := by rfl) (hg : ∀ i, Gl (F.X i) x := by intro _; rfl) (hn : x ≠ "__name__" := by decide) (hdb : (x == ("__debug__" : Str)) = false := by decide)
    (he : ∀ i, starEach (e :: es) (F.X i).env = (false, eval e (F.X i).env) :: starEach es (F.X i).env := by intro _; rfl) (hpl : ∀ i, (backTo pos (starEach es (F.X i).env)).any (·.1) = false := by intro _; rfl) : RE F (.Call (.Name x p) (e :: es) [] pos) (wB k wa) := by
  obtain ⟨r, h1, h2⟩ := hc
  obtain ⟨t, a1, a2⟩ := ha
  exact ⟨_, fun i => pe_callTy (h1 i) (hg i) (hm i) hv (a1 i) hn hdb (he i) (hpl i), LRs_call h2 a2⟩
section
variable {K : PySem.W.Frag} {Z H : Hp}
theorem pd1 {α β : Type} {G : α → β → Prop} {xs : List α} {d : β} (h : Paired G xs [d]) : ∃ x, xs = [x] ∧ G x d := by
  cases h with
  | cons r t => cases t; exact ⟨_, rfl, r⟩
theorem pd2 {α β : Type} {G : α → β → Prop} {xs : List α} {d e : β} (h : Paired G xs [d, e]) : ∃ x y, xs = [x, y] ∧ G x d ∧ G y e := by
  cases h with
  | cons r t =>
    obtain ⟨y, rfl, q⟩ := pd1 t
    exact ⟨_, y, rfl, r, q⟩
end
@[simp] def withO {α : Type} (o : Option α) (k : α → Prop) : Prop := match o with
  | some x => k x
  | none => False
theorem withO_of {α : Type} {o : Option α} {k : α → Prop} (h : withO o k) : ∃ x, o = some x ∧ k x := by
  cases o with
  | none => exact (show False from h).elim
  | some x => exact ⟨x, rfl, h⟩
/-- a kernel of one argument, of two -/
@[simp] def k1 (f : D → (Sl → Prop) → Prop) : KN := fun ds Q => match ds with
  | [] => False
  | d :: r => match r with
    | [] => f d Q
    | _ :: _ => False
@[simp] def k2 (f : D → D → (Sl → Prop) → Prop) : KN := fun ds Q => match ds with
  | [] => False
  | d :: r => match r with
    | [] => False
    | e :: r => match r with
      | [] => f d e Q
      | _ :: _ => False
theorem k1_of {f : D → (Sl → Prop) → Prop} {ds : List D} {Q : Sl → Prop} (h : k1 f ds Q) : ∃ d, ds = [d] ∧ f d Q := by
  match ds, h with
  | [d], h => exact ⟨d, rfl, h⟩
theorem k2_of {f : D → D → (Sl → Prop) → Prop} {ds : List D} {Q : Sl → Prop} (h : k2 f ds Q) : ∃ d e, ds = [d, e] ∧ f d e Q := by
  match ds, h with
  | [d, e], h => exact ⟨d, e, rfl, h⟩
theorem cd1 {f : Value} {g : D → (Sl → Prop) → Prop} {r : List V → Hp → VK → Prop} (h1 : ∀ i, CallR (F.X i) f r)
    (h2 : ∀ B σ H ρ Z x d Q Q', St1 F.K B σ H ρ Z [] → Rd1 F.K Z H x d → g d Q' → Rc F B σ ρ Q' Q → r [x] H Q) : CallD F f (k1 g) :=
  ⟨r, h1, fun B σ H ρ Z xs ds Q Q' S rx hk q => by
    obtain ⟨d, rfl, hk⟩ := k1_of hk
    obtain ⟨x, rfl, rx1⟩ := pd1 rx
    exact h2 B σ H ρ Z x d Q Q' S rx1 hk q⟩
theorem cd2 {f : Value} {g : D → D → (Sl → Prop) → Prop} {r : List V → Hp → VK → Prop} (h1 : ∀ i, CallR (F.X i) f r)
    (h2 : ∀ B σ H ρ Z x y d e Q Q', St1 F.K B σ H ρ Z [] → Rd1 F.K Z H x d → Rd1 F.K Z H y e → g d e Q' → Rc F B σ ρ Q' Q → r [x, y] H Q) : CallD F f (k2 g) :=
  ⟨r, h1, fun B σ H ρ Z xs ds Q Q' S rx hk q => by
    obtain ⟨d, e, rfl, hk⟩ := k2_of hk
    obtain ⟨x, y, rfl, rx1, ry1⟩ := pd2 rx
    exact h2 B σ H ρ Z x y d e Q Q' S rx1 ry1 hk q⟩
@[simp] def gLen : D → (Sl → Prop) → Prop := fun d Q => match d with
  | .str y => y.length ≤ sizeLine ∧ Q (.fz (.int y.length))
  | .dic ks _ => Q (.fz (.int ks.length))
  | d => withO (seqD d) fun ds => Q (.fz (.int ds.length))
abbrev kLen : KN := k1 gLen
theorem call_len_dK {X : Cx} : CallR X (.builtin "len") (fun xs H Q => ∃ p kvs, xs = [V.ref p] ∧ H p = some (.dK kvs) ∧ Q (.int (kvs.length : Nat)) H) := by
  rintro pins s σ H xs us Q I r ⟨p, kvs, rfl, e, q⟩
  rw [Vals.ref1 r]
  exact d_len I (.of e) fun t s' I' => ⟨.int _, H, I', ⟨t, rfl⟩, q⟩
theorem cd_len : CallD F (.builtin "len") kLen := by
  refine cd1 (r := fun xs H Q => (∃ x n, xs = [x] ∧ LenV F.K x H n ∧ Q (.int n) H) ∨ (∃ p kvs, xs = [V.ref p] ∧ H p = some (.dK kvs) ∧ Q (.int (kvs.length : Nat)) H)) (fun i => ?_) fun B σ H ρ Z x d Q Q' S rx hk q => ?_
  · have h := (call_len (X := F.X i)).or call_len_dK
    rw [F.hK i] at h
    exact h
  · have sq : ∀ {ds : List D}, seqD d = some ds → Q' (.fz (.int ds.length)) → (∃ x' n, [x] = [x'] ∧ LenV F.K x' H n ∧ Q (.int n) H) := fun {ds} e hq => by
      obtain ⟨p, vs, rfl, hs, r⟩ := rd_seq S rx e
      refine ⟨_, vs.length, rfl, ?_, q _ _ _ _ (S.have (.int _)) (by rw [r.len]; exact hq)⟩
      rcases hs with hs | hs
      · exact .inl ⟨vs, hs, rfl⟩
      · exact .inr ⟨vs, hs, rfl⟩
    cases d with
    | str y => exact .inl ⟨x, y.length, rfl, by rw [rd_str rx]; exact ⟨hk.1, rfl⟩, q _ _ _ _ (S.have (.int _)) hk.2⟩
    | dic ks xs =>
      obtain ⟨p, kvs, rfl, e, ek, r⟩ := rd_dic S rx
      refine .inr ⟨p, kvs, rfl, e, q _ _ _ _ (S.have (.int _)) ?_⟩
      have : kvs.length = ks.length := by rw [← ek, List.length_map]
      rw [this]
      exact hk
    | _ =>
      unfold gLen at hk
      obtain ⟨ds, e, hq⟩ := withO_of hk
      exact .inl (sq e hq)
@[simp] def gAbs : D → (Sl → Prop) → Prop := fun d Q => match d with
  | .int i => Q (.fz (.int (if i < 0 then -i else i)))
  | _ => False
abbrev kAbs : KN := k1 gAbs
theorem cd_abs : CallD F (.builtin "abs") kAbs := cd1 (fun _ => call_abs) fun B σ H ρ Z x d Q Q' S rx hk q => by
  cases d with
  | int i => exact ⟨i, by rw [rd_int rx], q _ _ _ _ (S.have (.int _)) hk⟩
  | _ => exact (show False from hk).elim
@[simp] def gInt : D → (Sl → Prop) → Prop := fun d Q => match d with
  | .int i => Q (.fz (.int i))
  | .bl b => Q (.fz (.int (if b then 1 else 0)))
  | _ => False
abbrev kInt : KN := k1 gInt
theorem cd_int : CallD F (.type "int") kInt := cd1 (fun _ => call_int1) fun B σ H ρ Z x d Q Q' S rx hk q => by
  cases d with
  | int i => exact .inl ⟨i, by rw [rd_int rx], q _ _ _ _ (S.have (.int _)) hk⟩
  | bl i => exact .inr ⟨i, by rw [rd_bl rx], q _ _ _ _ (S.have (.int _)) hk⟩
  | _ => exact (show False from hk).elim
@[simp] def gStr : D → (Sl → Prop) → Prop := fun d Q => match d with
  | .int i => i.natAbs.log2 < 1920 ∧ Q (.fz (.str (toString i)))
  | _ => False
abbrev kStr : KN := k1 gStr
theorem cd_str : CallD F (.type "str") kStr := cd1 (fun _ => call_str_int) fun B σ H ρ Z x d Q Q' S rx hk q => by
  cases d with
  | int i => exact ⟨i, by rw [rd_int rx], hk.1, q _ _ _ _ (S.have (.str _)) hk.2⟩
  | _ => exact (show False from hk).elim
abbrev kMax2 : KN := k2 (kI (fun _ _ => True) fun i j => if j > i then j else i)
abbrev kMin2 : KN := k2 (kI (fun _ _ => True) fun i j => if j < i then j else i)
theorem cd_max2 : CallD F (.builtin "max") kMax2 := cd2 (fun i => call_max2 (F.calm i)) fun B σ H ρ Z x y d e Q Q' S rx ry hk q => by
  obtain ⟨i, j, rfl, rfl, _, hq⟩ := kI_of hk
  exact ⟨i, j, by rw [rd_int rx, rd_int ry], q _ _ _ _ (S.have (.int _)) hq⟩
theorem cd_min2 : CallD F (.builtin "min") kMin2 := cd2 (fun i => call_min2 (F.calm i)) fun B σ H ρ Z x y d e Q Q' S rx ry hk q => by
  obtain ⟨i, j, rfl, rfl, _, hq⟩ := kI_of hk
  exact ⟨i, j, by rw [rd_int rx, rd_int ry], q _ _ _ _ (S.have (.int _)) hq⟩
@[simp] def gSeq (f : List D → Sl) : D → (Sl → Prop) → Prop := fun d Q => withO (seqD d) fun ds => Q (f ds)
abbrev kList : KN := k1 (gSeq fun ds => .ow (.lst ds))
abbrev kTuple : KN := k1 (gSeq fun ds => .fz (.tup ds))
theorem cd_list : CallD F (.type "list") kList := by
  refine cd1 (r := fun xs H Q => ∃ p ys, xs = [V.ref p] ∧ (SqL F.K H p ys ∨ SqT F.K H p ys) ∧ ∀ l, H l = none → Q (.ref l) (upd H l (.lst ys))) (fun i => ?_) fun B σ H ρ Z x d Q Q' S rx hk q => ?_
  · have h := call_list_of (X := F.X i)
    rw [F.hK i] at h
    exact h
  · obtain ⟨ds, e, hq⟩ := withO_of hk
    obtain ⟨p, vs, rfl, hs, r⟩ := rd_seq S rx e
    exact ⟨p, vs, rfl, hs, fun l hl => q _ _ _ _ (S.alloc1 (o := .lst _) (d := .lst _) hl r) hq⟩
theorem cd_tuple : CallD F (.type "tuple") kTuple := by
  refine cd1 (r := fun xs H Q => ∃ p ys, xs = [V.ref p] ∧ ((SqL F.K H p ys ∧ ∀ l, H l = none → Q (.ref l) (upd H l (.tup ys))) ∨ (SqT F.K H p ys ∧ Q (.ref p) H))) (fun i => ?_) fun B σ H ρ Z x d Q Q' S rx hk q => ?_
  · have h := call_tuple_of (X := F.X i)
    rw [F.hK i] at h
    exact h
  · obtain ⟨ds, e, hq⟩ := withO_of hk
    have new : ∀ {p : Addr} {vs : List V}, RpL F.K Z vs ds → ∀ l, H l = none → Q (.ref l) (upd H l (.tup vs)) := fun {p vs} r l hl => by
      obtain ⟨S2, le2⟩ := S.allocZ (o := .tup vs) hl
      exact q _ _ _ _ (S2.have (.tup (.of upd_same) (RpL.le le2 _ _ r))) hq
    cases d with
    | lst xs =>
      cases e
      obtain ⟨p, vs, rfl, hs, r⟩ := rd_lst S rx
      exact ⟨p, vs, rfl, .inl ⟨.of hs, new (p := p) r⟩⟩
    | tup xs =>
      cases e
      obtain ⟨p, vs, rfl, hz, hs, r⟩ := rd_tup S rx
      exact ⟨p, vs, rfl, .inr ⟨.inl hs, q _ _ _ _ (S.have (.tup hz r)) hq⟩⟩
    | scr ns =>
      cases e
      obtain ⟨p, rfl, hs⟩ := rd_scr S rx
      exact ⟨p, _, rfl, .inl ⟨hs, new (p := p) (RpL.ints ns)⟩⟩
    | _ => cases e
/-- all of a kind -/
def intsOf : List D → Option (List Int)
  | [] => some []
  | .int i :: r => match intsOf r with
    | some is => some (i :: is)
    | none => none
  | _ :: _ => none
def blsOf : List D → Option (List Bool)
  | [] => some []
  | .bl i :: r => match blsOf r with
    | some is => some (i :: is)
    | none => none
  | _ :: _ => none
def strsOf : List D → Option (List Str)
  | [] => some []
  | .str i :: r => match strsOf r with
    | some is => some (i :: is)
    | none => none
  | _ :: _ => none
theorem intsOf_eq : ∀ {ds : List D} {is : List Int}, intsOf ds = some is → ds = is.map D.int
  | [], is, h => by cases h; rfl
  | d :: ds, is, h => by
    cases d with
    | int i =>
      unfold intsOf at h
      cases e : intsOf ds with
      | none => rw [e] at h; cases h
      | some js => rw [e] at h; cases h; rw [intsOf_eq e]; rfl
    | _ => cases h
theorem blsOf_eq : ∀ {ds : List D} {is : List Bool}, blsOf ds = some is → ds = is.map D.bl
  | [], is, h => by cases h; rfl
  | d :: ds, is, h => by
    cases d with
    | bl i =>
      unfold blsOf at h
      cases e : blsOf ds with
      | none => rw [e] at h; cases h
      | some js => rw [e] at h; cases h; rw [blsOf_eq e]; rfl
    | _ => cases h
theorem strsOf_eq : ∀ {ds : List D} {is : List Str}, strsOf ds = some is → ds = is.map D.str
  | [], is, h => by cases h; rfl
  | d :: ds, is, h => by
    cases d with
    | str i =>
      unfold strsOf at h
      cases e : strsOf ds with
      | none => rw [e] at h; cases h
      | some js => rw [e] at h; cases h; rw [strsOf_eq e]; rfl
    | _ => cases h
theorem intsOf_map : ∀ is : List Int, intsOf (is.map D.int) = some is
  | [] => rfl
  | i :: is => by show (match intsOf (is.map D.int) with | some is => some (i :: is) | none => none) = _; rw [intsOf_map is]
theorem blsOf_map : ∀ is : List Bool, blsOf (is.map D.bl) = some is
  | [] => rfl
  | i :: is => by show (match blsOf (is.map D.bl) with | some is => some (i :: is) | none => none) = _; rw [blsOf_map is]
theorem strsOf_map : ∀ is : List Str, strsOf (is.map D.str) = some is
  | [] => rfl
  | i :: is => by show (match strsOf (is.map D.str) with | some is => some (i :: is) | none => none) = _; rw [strsOf_map is]
abbrev kSum : KN := k1 fun d Q => withO ((lstD d).bind intsOf) fun is => Q (.fz (.int is.sum))
abbrev kAny : KN := k1 fun d Q => withO ((lstD d).bind blsOf) fun is => Q (.fz (.bl (is.any _root_.id)))
abbrev kAll : KN := k1 fun d Q => withO ((lstD d).bind blsOf) fun is => Q (.fz (.bl (is.all _root_.id)))
theorem rd_ints {B : Bs} {σ : L2.St} {H : Hp} {ρ : En} {Z : Hp} {x : V} {d : D} {is : List Int} (S : St1 F.K B σ H ρ Z []) (rx : Rd1 F.K Z H x d) (e : (lstD d).bind intsOf = some is) : ∃ a, x = .ref a ∧ SqL F.K H a (is.map V.int) := by
  obtain ⟨ds, e1, e2⟩ := Option.bind_eq_some_iff.mp e
  obtain ⟨a, vs, rfl, hs, r⟩ := rd_lstD S rx e1
  rw [intsOf_eq e2] at r
  rw [← RpL.of_ints r]
  exact ⟨a, rfl, hs⟩
theorem rd_bls {B : Bs} {σ : L2.St} {H : Hp} {ρ : En} {Z : Hp} {x : V} {d : D} {is : List Bool} (S : St1 F.K B σ H ρ Z []) (rx : Rd1 F.K Z H x d) (e : (lstD d).bind blsOf = some is) : ∃ a, x = .ref a ∧ SqL F.K H a (is.map V.bl) := by
  obtain ⟨ds, e1, e2⟩ := Option.bind_eq_some_iff.mp e
  obtain ⟨a, vs, rfl, hs, r⟩ := rd_lstD S rx e1
  rw [blsOf_eq e2] at r
  rw [← RpL.of_bls r]
  exact ⟨a, rfl, hs⟩
theorem cd_sum : CallD F (.builtin "sum") kSum := cd1 (r := rSum F.K) (fun i => by rw [← F.hK i]; exact cr_sum (F.calm i)) fun B σ H ρ Z x d Q Q' S rx hk q => by
  obtain ⟨is, e, hq⟩ := withO_of hk
  obtain ⟨a, rfl, hs⟩ := rd_ints S rx e
  exact ⟨a, is, rfl, hs, q _ _ _ _ (S.have (.int _)) hq⟩
theorem cd_any : CallD F (.builtin "any") kAny := cd1 (r := rAny F.K) (fun i => by rw [← F.hK i]; exact cr_any (F.calm i)) fun B σ H ρ Z x d Q Q' S rx hk q => by
  obtain ⟨is, e, hq⟩ := withO_of hk
  obtain ⟨a, rfl, hs⟩ := rd_bls S rx e
  exact ⟨a, is, rfl, hs, q _ _ _ _ (S.have (.bl _)) hq⟩
theorem cd_all : CallD F (.builtin "all") kAll := cd1 (r := rAll F.K) (fun i => by rw [← F.hK i]; exact cr_all (F.calm i)) fun B σ H ρ Z x d Q Q' S rx hk q => by
  obtain ⟨is, e, hq⟩ := withO_of hk
  obtain ⟨a, rfl, hs⟩ := rd_bls S rx e
  exact ⟨a, is, rfl, hs, q _ _ _ _ (S.have (.bl _)) hq⟩

/-! ### subscripts -/
/-- d[k] -/
def rIxD : R2 := fun x y H Q => ∃ a v, x = .ref a ∧ DGet H a y (some v) ∧ Q v H
theorem ix_dic {X : Cx} (hu : X.A.units + 1 < cLine) : IxR X rIxD := by
  rintro value slice pins s σ H x y v u Q I rx ry ⟨a, z, rfl, g, q⟩ hs
  obtain rfl : v = Value.ref a := rx
  have hT := dict_typeIs I g
  have h := d_getItem (E := X.xe) hu I g ry fun w' s3 I3 rw' => (⟨z, H, I3, rw', q⟩ : EP X pins σ Q w' s3)
  unfold subscriptTail
  refine wpAny_bind ?_
  rw [getitemInPython_of_ne hT.not_modules]
  refine wpAny_bind (wpAny_specialOf hT PySem.F.slot_dict_getitem.lookup ?_)
  have fin : wpAny (model X.prog X.w) X.A (subscripted slice false (.ref a) u) (fun r s₃ => wpAny (model X.prog X.w) X.A (letTemporaryGo value (.ref a) r >>= fun _ => pure r) (EP X pins σ Q) X.xe s₃) X.xe s := by
    rw [hs]
    exact wpAny_operating (wpAny_mono h (fun r s₃ h₃ => wpAny_bind (wpAny_letTemporaryGo (wpAny_pure h₃))) fun _ _ x => x)
  first
    | exact wpAny_pure (wpAny_bind fin)
    | exact wpAny_bind (wpAny_pure (wpAny_bind fin))
    | exact wpAny_bind fin
@[simp] def kIx : K2 := fun x y Q => match x with
  | .dic ks xs => withO (keyD y) fun k => withO (lookD ks xs k) fun d => Q (.fz d)
  | x => kIxS x y Q
where kIxS : K2 := fun x y Q => match y with
  | .int i => (match x with
    | .str z => z.length ≤ sizeLine ∧ withO (atI z.cps.toList i) fun c => Q (.fz (.str ⟨#[c]⟩))
    | x => withO (seqD x) fun ds => withO (atI ds i) fun d => Q (.fz d))
  | _ => False
def IxD (F : Fm) (k : K2) : Prop := ∃ r : R2, (∀ i, IxR (F.X i) r) ∧ ∀ B σ H ρ Z x y dx dy Q Q', St1 F.K B σ H ρ Z [] → Rd1 F.K Z H x dx → Rd1 F.K Z H y dy → k dx dy Q' → Rc F B σ ρ Q' Q → r x y H Q
theorem atI_rp {K : PySem.W.Frag} {Z : Hp} {vs : List V} {ds : List D} {i : Int} {d : D} (r : RpL K Z vs ds) (e : atI ds i = some d) : ∃ v, atI vs i = some v ∧ Rp K Z v d := by
  unfold atI at e ⊢
  rw [r.len]
  obtain ⟨j, e1, e2⟩ := Option.bind_eq_some_iff.mp e
  obtain ⟨v, e3, q⟩ := r.get e2
  exact ⟨v, by rw [e1]; exact e3, q⟩
theorem ix_s : IxD F kIx.kIxS := by
  refine ⟨fun x y H Q => (rIxL F.K x y H Q ∨ rIxT F.K x y H Q) ∨ rIxS x y H Q, fun i => ?_, fun B σ H ρ Z x y dx dy Q Q' S rx ry hk q => ?_⟩
  · have h := ((ix_list (X := F.X i)).or ix_tup).or ix_str
    rw [F.hK i] at h
    exact h
  · cases dy with
    | int i =>
      have sq : (withO (seqD dx) fun ds => withO (atI ds i) fun d => Q' (.fz d)) → (rIxL F.K x y H Q ∨ rIxT F.K x y H Q) ∨ rIxS x y H Q := fun hk => by
        obtain ⟨ds, e1, hk⟩ := withO_of hk
        obtain ⟨d, e2, hq⟩ := withO_of hk
        obtain ⟨p, vs, rfl, hs, r⟩ := rd_seq S rx e1
        obtain ⟨v, e3, rv⟩ := atI_rp r e2
        rcases hs with hs | hs
        · exact .inl (.inl ⟨p, vs, i, v, rfl, rd_int ry, hs, e3, q _ _ _ _ (S.have rv) hq⟩)
        · exact .inl (.inr ⟨p, vs, i, v, rfl, rd_int ry, hs, e3, q _ _ _ _ (S.have rv) hq⟩)
      cases dx with
      | str z =>
        obtain ⟨hz, hk⟩ := (show _ ∧ _ from hk)
        obtain ⟨c, e2, hq⟩ := withO_of hk
        exact .inr ⟨z, i, c, rd_str rx, rd_int ry, hz, e2, q _ _ _ _ (S.have (.str _)) hq⟩
      | _ => exact sq hk
    | _ => exact (show False from hk).elim
theorem ix_d : IxD F kIx := by
  obtain ⟨r, h1, h2⟩ := ix_s (F := F)
  refine ⟨fun x y H Q => r x y H Q ∨ rIxD x y H Q, fun i => (h1 i).or (ix_dic (un1 (F.un i))), fun B σ H ρ Z x y dx dy Q Q' S rx ry hk q => ?_⟩
  cases dx with
  | dic ks xs =>
    unfold kIx at hk
    obtain ⟨k, e1, hk⟩ := withO_of hk
    obtain ⟨d, e2, hq⟩ := withO_of hk
    obtain ⟨p, kvs, rfl, e, ek, rr⟩ := rd_dic S rx
    obtain ⟨v, e3, rv⟩ := look_some rr (by rw [ek]; exact e2)
    exact .inr ⟨p, v, rfl, by rw [keyD_v ry e1, ← e3]; exact .k e, q _ _ _ _ (S.have rv) hq⟩
  | _ => unfold kIx at hk; exact .inl (h2 B σ H ρ Z x y _ dy Q Q' S rx ry hk q)
theorem re_ixR {k : K2} {wa wb : WR} (ho : IxD F k) (ha : RR F a wa) (hb : RR F b wb) (hs : PlainIx b := by intro _ _; rfl) : RE F (.Subscript a b pos) (wOp k wa wb) := by
  obtain ⟨r, h1, h2⟩ := ho
  obtain ⟨ta, a1, a2⟩ := ha
  obtain ⟨tb, b1, b2⟩ := hb
  exact ⟨_, fun i => pe_ix (h1 i) (a1 i) (b1 i) hs, two_ok a2 b2 h2⟩
theorem re_ix {wa wb : WR} (ha : RR F a wa) (hb : RR F b wb) (hs : PlainIx b := by intro _ _; rfl) : RE F (.Subscript a b pos) (wOp kIx wa wb) := re_ixR ix_d ha hb hs

/-! ### slices -/
/-- a part of a slice -/
abbrev WO := EX → En → (Option Int → En → Prop) → Prop
@[simp] def oN : WO := fun _ ρ Q => Q none ρ
@[simp] def oS (w : WR) : WO := fun E ρ Q => w E ρ fun r ρ1 => with1 (look ρ1 r) fun d => match d with
  | .int i => Q (some i) ρ1
  | _ => False
def LO (F : Fm) (t : TO) (w : WO) : Prop := ∀ B σ H ρ Z Q Q' E, St1 F.K B σ H ρ Z [] → ExOk F B E → w E ρ Q' → (∀ o H' ρ' Z', St1 F.K B σ H' ρ' Z' [] → Le Z Z' → Q' o ρ' → Q o H') → t σ H Q
def RO (F : Fm) (o : Option Expr) (w : WO) : Prop := ∃ t, (∀ i, PO (F.X i) o t) ∧ LO F t w
theorem ro_n : RO F none oN := ⟨_, fun _ => po_none, fun B σ H ρ Z Q Q' E S X hw q => q none H ρ Z S (fun _ _ z => z) hw⟩
theorem ro_s {w : WR} (h : RR F e w) : RO F (some e) (oS w) := by
  obtain ⟨t, a1, a2⟩ := h
  refine ⟨_, fun i => po_some (a1 i), fun B σ H ρ Z Q Q' E S X hw q => a2 B σ H ρ Z _ _ E S X hw fun x r H1 ρ1 Z1 S1 le1 o1 hw => ?_⟩
  obtain ⟨d, e1, hk⟩ := with1_of hw
  cases d with
  | int i => exact ⟨i, rd_int (S1.read o1 e1), q _ _ _ _ S1 le1 hk⟩
  | _ => exact (show False from hk).elim
def cutD (xs : List D) (lo hi : Option Int) : List D := (xs.drop (HT.sIx xs.length 0 lo)).take (HT.sIx xs.length xs.length hi - HT.sIx xs.length 0 lo)
@[simp] def kSl (x : D) (lo hi : Option Int) (Q : Sl → Prop) : Prop := match x with
  | .str z => z.length ≤ sizeLine ∧ Q (.fz (.str (cutS z lo hi)))
  | .lst ds => Q (.ow (.lst (cutD ds lo hi)))
  | .tup ds => Q (.fz (.tup (cutD ds lo hi)))
  | .scr ns => Q (.ow (.lst (cutD (ns.map D.int) lo hi)))
  | _ => False
@[simp] def wSl (a : WR) (l u : WO) : WE := fun E ρ Q => a E ρ fun r ρ1 => l E ρ1 fun lo ρ2 => u E ρ2 fun hi ρ3 => with1 (look ρ3 r) fun x => kSl x lo hi fun s => Q s ρ3
theorem cut_rp {K : PySem.W.Frag} {Z : Hp} {vs : List V} {ds : List D} {lo hi : Option Int} (r : RpL K Z vs ds) : RpL K Z (cutV vs lo hi) (cutD ds lo hi) := by
  unfold cutV cutD
  rw [r.len]
  exact (r.drop _).take _
theorem cut_whole {ds : List D} {lo hi : Option Int} (h : HT.sIx ds.length 0 lo = 0 ∧ HT.sIx ds.length ds.length hi = ds.length) : cutD ds lo hi = ds := by
  unfold cutD
  rw [h.1, h.2]
  simp
theorem re_sl {lo hi : Option Expr} {p2 : Pos} {wa : WR} {wl wu : WO} (ha : RR F a wa) (hl : RO F lo wl) (hu : RO F hi wu) : RE F (.Subscript a (.Slice lo hi none p2) pos) (wSl wa wl wu) := by
  obtain ⟨ta, a1, a2⟩ := ha
  obtain ⟨tl, l1, l2⟩ := hl
  obtain ⟨tu, u1, u2⟩ := hu
  refine ⟨tSl (fun x lo hi H Q => (rSlL F.K x lo hi H Q ∨ rSlA F.K x lo hi H Q) ∨ rSlS x lo hi H Q) ta tl tu, fun i => pe_slice ?_ (a1 i) (l1 i) (u1 i), LE.of fun B σ H ρ Z Q Q' E S X hw q => a2 B σ H ρ Z _ _ E S X hw fun x r H1 ρ1 Z1 S1 le1 o1 hw => l2 B σ H1 ρ1 Z1 _ _ E S1 X hw fun lo H2 ρ2 Z2 S2 le2 hw => u2 B σ H2 ρ2 Z2 _ _ E S2 X hw fun hi H3 ρ3 Z3 S3 le3 hw => ?_⟩
  · have h := ((sl_list (X := F.X i)).or sl_tupA).or sl_str
    rw [F.hK i] at h
    exact h
  · obtain ⟨d, e1, hk⟩ := with1_of hw
    have rx := S3.read ((o1.le le2).le le3) e1
    cases d with
    | str z =>
      exact .inr ⟨z, rd_str rx, hk.1, q _ _ _ _ _ (S3.have (.str _)) hk.2⟩
    | lst ds =>
      obtain ⟨p, vs, rfl, hs, r⟩ := rd_lst S3 rx
      exact .inl (.inl ⟨p, vs, rfl, .of hs, fun l hl => q _ _ _ _ _ (S3.alloc1 (o := .lst _) (d := .lst _) hl (cut_rp r)) hk⟩)
    | scr ns =>
      obtain ⟨p, rfl, hs⟩ := rd_scr S3 rx
      exact .inl (.inl ⟨p, _, rfl, hs, fun l hl => q _ _ _ _ _ (S3.alloc1 (o := .lst _) (d := .lst _) hl (cut_rp (RpL.ints ns))) hk⟩)
    | tup ds =>
      obtain ⟨p, vs, rfl, hz, hs, r⟩ := rd_tup S3 rx
      refine .inl (.inr ⟨p, vs, rfl, .inl hs, fun h => ?_, fun h l hl => ?_⟩)
      · have hk : Q' (.fz (.tup (cutD ds lo hi))) ρ3 := hk
        rw [cut_whole (by rw [r.len] at h; exact h)] at hk
        exact q _ _ _ _ _ (S3.have (.tup hz r)) hk
      · obtain ⟨S4, le4⟩ := S3.allocZ (o := .tup (cutV vs lo hi)) hl
        exact q _ _ _ _ _ (S4.have (.tup (.of upd_same) (RpL.le le4 _ _ (cut_rp r)))) hk
    | _ => exact (show False from hk).elim

/-! ### list(range(..)) -/
theorem rng_rp {K : PySem.W.Frag} {Z : Hp} (a b : Int) : RpL K Z (rgV a b) (rangeD a b) := by
  unfold rgV rangeD
  have : ∀ l : List Nat, RpL K Z (l.map fun i => V.int (a + (i : Nat))) (l.map fun (k : Nat) => D.int (a + (k : Int))) := by
    intro l
    induction l with
    | nil => exact .nil
    | cons i l ih => exact .cons (.int _) ih
  exact this _
@[simp] def wLrg1 (w : WR) : WE := fun E ρ Q => w E ρ fun r ρ1 => with1 (look ρ1 r) fun d => match d with
  | .int b => RgOk 0 b ∧ Q (.ow (.lst (rangeD 0 b))) ρ1
  | _ => False
@[simp] def wLrg2 (u w : WR) : WE := fun E ρ Q => u E ρ fun r1 ρ1 => w E ρ1 fun r2 ρ2 => with2 (look ρ2 r1) (look ρ2 r2) fun x y => match x with
  | .int a => (match y with
    | .int b => RgOk a b ∧ Q (.ow (.lst (rangeD a b))) ρ2
    | _ => False)
  | _ => False
theorem re_lrg1 {pr pr2 : Pos} {w : WR} (h : RR F e w) (hm1 : ∀ i, (F.X i).mg "list" = none) (hm2 : ∀ i, (F.X i).mg "range" = none) (hg1 : ∀ i, Gl (F.X i) "list" := by intro _; rfl) (hg2 : ∀ i, Gl (F.X i) "range" := by intro _; rfl)
    (na : ∀ i, starEach [e] (F.X i).env = (false, eval e (F.X i).env) :: starEach [] (F.X i).env := by intro _; rfl) (nb : ∀ i, starEach [.Call (.Name "range" pr) [e] [] pr2] (F.X i).env = (false, eval (.Call (.Name "range" pr) [e] [] pr2) (F.X i).env) :: starEach [] (F.X i).env := by intro _; rfl) : RE F (.Call (.Name "list" p) [.Call (.Name "range" pr) [e] [] pr2] [] pos) (wLrg1 w) := by
  obtain ⟨t, a1, a2⟩ := h
  refine ⟨_, fun i => pe_listRg (F.calm i) (hg1 i) (hm1 i) (prg_1 (hg2 i) (hm2 i) (a1 i) (na i)) (nb i), LE.of fun B σ H ρ Z Q Q' E S X hw q => a2 B σ H ρ Z _ _ E S X hw fun x r H1 ρ1 Z1 S1 le1 o1 hw => ?_⟩
  obtain ⟨d, e1, hk⟩ := with1_of hw
  cases d with
  | int b => exact ⟨b, rd_int (S1.read o1 e1), hk.1, fun l hl => q _ _ _ _ _ (S1.alloc1 (o := .lst _) (d := .lst _) hl (rng_rp 0 b)) hk.2⟩
  | _ => exact (show False from hk).elim
theorem re_lrg2 {f : Expr} {pr pr2 : Pos} {u w : WR} (h : RR F e u) (h' : RR F f w) (hm1 : ∀ i, (F.X i).mg "list" = none) (hm2 : ∀ i, (F.X i).mg "range" = none) (hg1 : ∀ i, Gl (F.X i) "list" := by intro _; rfl) (hg2 : ∀ i, Gl (F.X i) "range" := by intro _; rfl)
    (na : ∀ i, starEach [e, f] (F.X i).env = (false, eval e (F.X i).env) :: starEach [f] (F.X i).env := by intro _; rfl) (na2 : ∀ i, starEach [f] (F.X i).env = (false, eval f (F.X i).env) :: starEach [] (F.X i).env := by intro _; rfl) (np : ∀ i, (backTo pr2 (starEach [f] (F.X i).env)).any (·.1) = false := by intro _; rfl) (nb : ∀ i, starEach [.Call (.Name "range" pr) [e, f] [] pr2] (F.X i).env = (false, eval (.Call (.Name "range" pr) [e, f] [] pr2) (F.X i).env) :: starEach [] (F.X i).env := by intro _; rfl) : RE F (.Call (.Name "list" p) [.Call (.Name "range" pr) [e, f] [] pr2] [] pos) (wLrg2 u w) := by
  obtain ⟨t, a1, a2⟩ := h
  obtain ⟨t', b1, b2⟩ := h'
  refine ⟨_, fun i => pe_listRg (F.calm i) (hg1 i) (hm1 i) (prg_2 (hg2 i) (hm2 i) (a1 i) (b1 i) (na i) (na2 i) (np i)) (nb i), LE.of fun B σ H ρ Z Q Q' E S X hw q => a2 B σ H ρ Z _ _ E S X hw fun x r H1 ρ1 Z1 S1 le1 o1 hw => b2 B σ H1 ρ1 Z1 _ _ E S1 X hw fun y r2 H2 ρ2 Z2 S2 le2 o2 hw => ?_⟩
  obtain ⟨dx, dy, e1, e2, hk⟩ := with2_of hw
  cases dx with
  | int a =>
    cases dy with
    | int b => exact ⟨a, b, rd_int (S2.read (o1.le le2) e1), rd_int (S2.read o2 e2), hk.1, fun l hl => q _ _ _ _ _ (S2.alloc1 (o := .lst _) (d := .lst _) hl (rng_rp a b)) hk.2⟩
    | _ => exact (show False from hk).elim
  | _ => exact (show False from hk).elim

/-! ### methods that only read -/
def MetD (F : Fm) (T id : String) (k : D → KN) : Prop := ∃ r : V → List V → Hp → VK → Prop, (∀ i, MtR (F.X i) id r) ∧ ∀ B σ H ρ Z x dx xs ds Q Q', St1 F.K B σ H ρ Z [] → Rd1 F.K Z H x dx → Paired (Rd1 F.K Z H) xs ds → k dx ds Q' → Rc F B σ ρ Q' Q → r x xs H Q
/-- the receiver's type is seen ahead of the arguments -/
@[simp] def tyD (T : String) (d : D) : Prop := match d with
  | .str _ => T = "str"
  | .lst _ => T = "list"
  | .scr _ => T = "list"
  | .dic _ _ => T = "dict"
  | _ => False
theorem tyD_v {B : Bs} {σ : L2.St} {H : Hp} {ρ : En} {Z : Hp} {x : V} {d : D} (S : St1 F.K B σ H ρ Z []) (rx : Rd1 F.K Z H x d) (h : tyD T d) : tyV F.K T x H := by
  cases d with
  | str z => rw [rd_str rx]; exact h
  | lst ds =>
    obtain ⟨p, vs, rfl, hs, r⟩ := rd_lst S rx
    exact .inl ⟨h, vs, .of hs⟩
  | scr ns =>
    obtain ⟨p, rfl, hs⟩ := rd_scr S rx
    exact .inl ⟨h, _, hs⟩
  | dic ks ds =>
    obtain ⟨p, kvs, rfl, hs, r⟩ := rd_dic S rx
    exact .inr (.inr (.inl ⟨h, .inl ⟨kvs, hs⟩⟩))
  | _ => exact (show False from h).elim
@[simp] def wMt (T : String) (k : D → KN) (o : WR) (as : WRs) : WE := fun E ρ Q => o E ρ fun r ρ1 => with1 (look ρ1 r) fun d0 => tyD T d0 ∧ as E ρ1 fun rs ρ2 => with1 (look ρ2 r) fun x => withN (looks ρ2 rs) fun ds => k x ds fun s => Q s ρ2
theorem re_mt {k : D → KN} {wo : WR} {wa : WRs} {name : Str} {apos cpos : Pos} {o : Expr} (hc : MetD F T id k) (ho : RR F o wo) (ha : RRs F (e :: es) wa) (pa : PlainAttrs T) (slot : Slot T name id) (hty : typeOf (.builtin id) = pure (.type "method_descriptor"))
    (hbase : ∀ i, attributeBase o name (F.X i).env (eval o (F.X i).env) = eval o (F.X i).env := by intro _; rfl)
    (hfew : ∀ i, ((backTo cpos (starEach (e :: es) (F.X i).env)).all (fun x => !x.1) && (backToKw cpos (keywordEach [] (F.X i).env)).all (fun x => x.1.isSome)
      && decide ((e :: es).length + ([] : List Keyword).length + (if ([] : List Keyword).isEmpty then 0 else 1) < 30)) = true := by intro _; rfl)
    (hline : (apos.endLine == cpos.line) = true := by rfl) (hs : ∀ i, starEach (e :: es) (F.X i).env = (false, eval e (F.X i).env) :: starEach es (F.X i).env := by intro _; rfl) (hplain : ∀ i, (backTo cpos (starEach es (F.X i).env)).any (·.1) = false := by intro _; rfl) :
    RE F (.Call (.Attribute o name apos) (e :: es) [] cpos) (wMt T k wo wa) := by
  obtain ⟨r, h1, h2⟩ := hc
  obtain ⟨to, o1, o2⟩ := ho
  obtain ⟨t, a1, a2⟩ := ha
  refine ⟨tBM F.K T r to t, fun i => by rw [← F.hK i]; exact pe_bm pa slot hty (h1 i) (o1 i) (a1 i) (hbase i) (hfew i) hline (hs i) (hplain i), LE.of fun B σ H ρ Z Q Q' E S X hw q => o2 B σ H ρ Z _ _ E S X hw fun x rr H1 ρ1 Z1 S1 le1 ok1 hw => ?_⟩
  obtain ⟨d0, e0, hty', hw⟩ := with1_of hw
  refine ⟨tyD_v S1 (S1.read ok1 e0) hty', a2 B σ H1 ρ1 Z1 _ _ E S1 X hw fun xs rs H2 ρ2 Z2 S2 le2 ok2 hw => ?_⟩
  obtain ⟨dx, e1, hw⟩ := with1_of hw
  obtain ⟨ds, e2, hk⟩ := withN_of hw
  exact h2 B σ H2 ρ2 Z2 x dx xs ds Q _ S2 (S2.read (ok1.le le2) e1) (S2.reads ok2 e2) hk fun v s H' Z' S' hq => q v s H' ρ2 Z' S' hq
/-- the first place of it -/
def firstAt (y : D) : Nat → List D → Option Nat
  | _, [] => none
  | k, z :: zs => if beq z y = true then some k else firstAt y (k + 1) zs
theorem firstAt_of {y : D} : ∀ {ds : List D} {k j : Nat}, firstAt y k ds = some j → ∃ i z, j = k + i ∧ (pys ds)[i]? = some z ∧ PyData.eqv z y.py = true ∧ ∀ (m : Nat) z', m < i → (pys ds)[m]? = some z' → PyData.eqv z' y.py = false
  | [], _, _, h => by cases h
  | d :: ds, k, j, h => by
    unfold firstAt at h
    by_cases hb : beq d y = true
    · rw [if_pos hb] at h
      cases h
      exact ⟨0, d.py, rfl, rfl, hb, fun m z' hm _ => absurd hm (Nat.not_lt_zero m)⟩
    · rw [if_neg hb] at h
      obtain ⟨i, z, rfl, h1, h2, h3⟩ := firstAt_of h
      refine ⟨i + 1, z, by omega, h1, h2, fun m z' hm e => ?_⟩
      cases m with
      | zero =>
        have e : some d.py = some z' := e
        cases e
        simpa using hb
      | succ m => exact h3 m z' (by omega) e
@[simp] def kIndex : D → KN := fun x => k1 fun y Q => match x with
  | .lst ds => bothGood y (.lst ds) (withO (firstAt y 0 ds) fun j => Q (.fz (.int (j : Nat))))
  | _ => False
theorem md_index : MetD F "list" "list.index" kIndex := by
  refine ⟨rIndexD F.K, fun i => by rw [← F.hK i]; exact mt_indexD (un65 (F.un i)), fun B σ H ρ Z x dx xs ds Q Q' S rx rxs hk q => ?_⟩
  obtain ⟨y, rfl, hk⟩ := k1_of hk
  obtain ⟨v, rfl, rv⟩ := pd1 rxs
  cases dx with
  | lst ds =>
    obtain ⟨g1, g2, hk⟩ := (show bothGood _ _ _ from hk)
    obtain ⟨j, ej, hq⟩ := withO_of hk
    obtain ⟨i, z, rfl, h1, h2, h3⟩ := firstAt_of ej
    obtain ⟨p, vs, rfl, hs, r⟩ := rd_lst S rx
    refine ⟨p, v, y.py, pys ds, i, z, rfl, rfl, dp_rd S rx (good_plain g2), dp_rd S rv (good_plain g1), good_shaped g2, good_shaped g1, h1, h2, h3, ?_⟩
    rw [Nat.zero_add] at hq
    exact q _ _ _ _ (S.have (.int _)) hq
  | _ => exact (show False from hk).elim
theorem re_index {wo : WR} {wa : WRs} {apos cpos : Pos} {o : Expr} (ho : RR F o wo) (ha : RRs F [e] wa)
    (hbase : ∀ i, attributeBase o "index" (F.X i).env (eval o (F.X i).env) = eval o (F.X i).env := by intro _; rfl)
    (hfew : ∀ i, ((backTo cpos (starEach [e] (F.X i).env)).all (fun x => !x.1) && (backToKw cpos (keywordEach [] (F.X i).env)).all (fun x => x.1.isSome)
      && decide ([e].length + ([] : List Keyword).length + (if ([] : List Keyword).isEmpty then 0 else 1) < 30)) = true := by intro _; rfl)
    (hline : (apos.endLine == cpos.line) = true := by rfl) (hs : ∀ i, starEach [e] (F.X i).env = (false, eval e (F.X i).env) :: starEach [] (F.X i).env := by intro _; rfl) (hplain : ∀ i, (backTo cpos (starEach [] (F.X i).env)).any (·.1) = false := by intro _; rfl) :
    RE F (.Call (.Attribute o "index" apos) [e] [] cpos) (wMt "list" kIndex wo wa) := re_mt md_index ho ha PySem.F.plainAttrs_list PySem.F.slot_list_index PySem.F.type_list_index hbase hfew hline hs hplain
@[simp] def kJoin : D → KN := fun x => k1 fun y Q => match x with
  | .str a => withO (seqD y) fun ds => withO (strsOf ds) fun ys => (ys.map (·.length)).sum + ys.length * a.length ≤ 16777216 ∧ Q (.fz (.str (Txt.join a ys)))
  | _ => False
theorem md_join : MetD F "str" "str.join" kJoin := by
  refine ⟨fun x xs H Q => ∃ a p, ∃ ys : List Str, x = .str a ∧ xs = [.ref p] ∧ (SqL F.K H p (ys.map V.str) ∨ SqT F.K H p (ys.map V.str)) ∧ (ys.map (·.length)).sum + ys.length * a.length ≤ 16777216 ∧ Q (.str (Txt.join a ys)) H, fun i => by rw [← F.hK i]; exact mt_join, fun B σ H ρ Z x dx xs ds Q Q' S rx rxs hk q => ?_⟩
  obtain ⟨y, rfl, hk⟩ := k1_of hk
  obtain ⟨v, rfl, rv⟩ := pd1 rxs
  cases dx with
  | str a =>
    obtain ⟨ds, e1, hk⟩ := withO_of hk
    obtain ⟨ys, e2, hz, hq⟩ := withO_of hk
    obtain ⟨p, vs, rfl, hs, r⟩ := rd_seq S rv e1
    rw [strsOf_eq e2] at r
    rw [RpL.of_strs r] at hs
    exact ⟨a, p, ys, rd_str rx, rfl, hs, hz, q _ _ _ _ (S.have (.str _)) hq⟩
  | _ => exact (show False from hk).elim
theorem re_join {wo : WR} {wa : WRs} {apos cpos : Pos} {o : Expr} (ho : RR F o wo) (ha : RRs F [e] wa)
    (hbase : ∀ i, attributeBase o "join" (F.X i).env (eval o (F.X i).env) = eval o (F.X i).env := by intro _; rfl)
    (hfew : ∀ i, ((backTo cpos (starEach [e] (F.X i).env)).all (fun x => !x.1) && (backToKw cpos (keywordEach [] (F.X i).env)).all (fun x => x.1.isSome)
      && decide ([e].length + ([] : List Keyword).length + (if ([] : List Keyword).isEmpty then 0 else 1) < 30)) = true := by intro _; rfl)
    (hline : (apos.endLine == cpos.line) = true := by rfl) (hs : ∀ i, starEach [e] (F.X i).env = (false, eval e (F.X i).env) :: starEach [] (F.X i).env := by intro _; rfl) (hplain : ∀ i, (backTo cpos (starEach [] (F.X i).env)).any (·.1) = false := by intro _; rfl) :
    RE F (.Call (.Attribute o "join" apos) [e] [] cpos) (wMt "str" kJoin wo wa) := re_mt md_join ho ha PySem.F.plainAttrs_str PySem.F.slot_str_join PySem.F.type_str_join hbase hfew hline hs hplain
@[simp] def kSplit : D → KN := fun x => k1 fun y Q => match x with
  | .str a => (match y with
    | .str b => ((b.length == 0) = false ∧ a.length + 2 ≤ sizeLine) ∧ Q (.ow (.lst ((Txt.split a b).map D.str)))
    | _ => False)
  | _ => False
theorem md_split : MetD F "str" "str.split" kSplit := by
  refine ⟨_, fun i => mt_split, fun B σ H ρ Z x dx xs ds Q Q' S rx rxs hk q => ?_⟩
  obtain ⟨y, rfl, hk⟩ := k1_of hk
  obtain ⟨v, rfl, rv⟩ := pd1 rxs
  cases dx with
  | str a =>
    cases y with
    | str b =>
      obtain ⟨⟨h1, h2⟩, hq⟩ := (show _ ∧ _ from hk)
      exact ⟨a, b, rd_str rx, by rw [rd_str rv], h1, h2, fun l hl => q _ _ _ _ (S.alloc1 (o := .lst _) (d := .lst _) hl (RpL.strs _)) hq⟩
    | _ => exact (show False from hk).elim
  | _ => exact (show False from hk).elim
theorem re_split {wo : WR} {wa : WRs} {apos cpos : Pos} {o : Expr} (ho : RR F o wo) (ha : RRs F [e] wa)
    (hbase : ∀ i, attributeBase o "split" (F.X i).env (eval o (F.X i).env) = eval o (F.X i).env := by intro _; rfl)
    (hfew : ∀ i, ((backTo cpos (starEach [e] (F.X i).env)).all (fun x => !x.1) && (backToKw cpos (keywordEach [] (F.X i).env)).all (fun x => x.1.isSome)
      && decide ([e].length + ([] : List Keyword).length + (if ([] : List Keyword).isEmpty then 0 else 1) < 30)) = true := by intro _; rfl)
    (hline : (apos.endLine == cpos.line) = true := by rfl) (hs : ∀ i, starEach [e] (F.X i).env = (false, eval e (F.X i).env) :: starEach [] (F.X i).env := by intro _; rfl) (hplain : ∀ i, (backTo cpos (starEach [] (F.X i).env)).any (·.1) = false := by intro _; rfl) :
    RE F (.Call (.Attribute o "split" apos) [e] [] cpos) (wMt "str" kSplit wo wa) := re_mt md_split ho ha PySem.F.plainAttrs_str PySem.F.slot_str_split PySem.F.type_str_split hbase hfew hline hs hplain
end
end Pu

set_option Elab.async false
set_option linter.all false
set_option maxRecDepth 100000
set_option maxHeartbeats 1000000
/-! Pu, enumerate over a tuple, at the level of HandS. -/
namespace Pu
open PySem L2 PySem.Spec PyProof.Rows

theorem meets_enumT {v : Value} {o : Obj} {H : Heap → Prop} (B : Begins v o H) :
    Meets (Builtin.«enumerate.__new__» ⟨[.type "enumerate", v], []⟩) (fun _ R s => H s.heap ∧
      R (.ok (.ret (.ref (s.heap.push o).objs.size))) { s with heap := (s.heap.push o).push { cls := .type "enumerate", data := .fields #[.none, .bool false, .ref s.heap.objs.size, rawInt 0, .none, .none] } }) :=
  .of_wp fun prog w A R s h => by
    obtain ⟨hp, g, d, tk, os⟩ := s
    obtain ⟨h1, h⟩ := h
    have hsub := sub_enumerate
    have q1 : ∀ {A' : Around} {E : Value → Shared → Prop} {Q : Value → Shared → Prop}, Q (.ref hp.objs.size) ⟨hp.push o, g, d, tk, os⟩ → wpAny (model prog w) A' (pyIter v) Q E ⟨hp, g, d, tk, os⟩ :=
      fun q => B.iter prog w _ _ ⟨hp, g, d, tk, os⟩ _ h1 q
    wp_walk using q1
    refine wpAny_stack_any fun st => wpAny_pure ?_
    split
    · rename_i c _ _ _ _ _
      cases (c == Value.type "enumerate")
      · wp_walk using q1
        exact ⟨_, rfl, h⟩
      · wp_walk using q1
        exact ⟨_, rfl, h⟩
    · wp_walk using q1
      exact ⟨_, rfl, h⟩
section
variable {prog : Program} {w : World} {A : Around} {E : Value → Shared → Prop} {s : Shared}
theorem call_enumT {v : Value} {o : Obj} {H : Heap → Prop} {Q : Value → Shared → Prop} (B : Begins v o H) (h1 : H s.heap)
    (h : ∀ h', IsEnum h' (s.heap.objs.size + 1) s.heap.objs.size 0 .none → h'.get? s.heap.objs.size = some o → h'.objs.size = s.heap.objs.size + 2 →
      (∀ b ob, s.heap.get? b = some ob → h'.get? b = some ob) → Q (.ref (s.heap.objs.size + 1)) { s with heap := h' }) :
    wpAny (model prog w) A (call (.type "enumerate") [v]) Q E s := by
  refine callType_new F.called_enumerate (by decide) (F.typeCall_enumerate_1 _) (F.newCall_enumerate_1 _) (fun obj => F.args_object_init_2 obj _) F.entry_enumerate_new
    (meets_enumT B) ⟨h1, ?_⟩
  have hz : (s.heap.push o).objs.size = s.heap.objs.size + 1 := Heap.size_push ..
  show _ ∧ _
  rw [hz]
  have he : IsEnum ((s.heap.push o).push { cls := .type "enumerate", data := .fields #[.none, .bool false, .ref s.heap.objs.size, rawInt 0, .none, .none] }) (s.heap.objs.size + 1) s.heap.objs.size 0 .none := by
    have := Heap.get?_push_size (s.heap.push o) (o := { cls := .type "enumerate", data := .fields #[.none, .bool false, .ref s.heap.objs.size, rawInt 0, .none, .none] }) rfl
    rw [hz] at this; exact this
  exact ⟨⟨_, he, rfl⟩, h _ he (Heap.get?_push_of_some _ (Heap.get?_push_size _ B.free)) (by rw [Heap.size_push, hz]) fun b ob x => Heap.get?_push_of_some _ (Heap.get?_push_of_some _ x)⟩
end
/-- the tuple at a, numbered -/
def IteT (K : PySem.W.Frag) (a : Addr) : It :=
  ⟨fun i H => ∃ (xs : List V) (x : V), SqT K H a xs ∧ xs[i]? = some x, fun i H v H' => ∃ T x, v = .ref T ∧ H T = none ∧ H' = upd H T (.tup [.int (i : Nat), x]) ∧ ∀ xs, SqT K H a xs → xs[i]? = some x, fun i H => ∃ xs : List V, SqT K H a xs ∧ xs.length = i⟩
theorem turn_enumT {P : Program} {w : World} {K : PySem.W.Frag} {elts : List Expr} {kk : Nat} {tpos : Pos} (a e it : Addr) :
    Turn P w K (.Tuple elts kk tpos) (IteT K a) [e, it] e (fun i h => (∃ old, IsEnum h e it ((i : Nat) : Int) old) ∧ h.IsTupleIter it a i ∧ e ≠ it) where
  mem := by simp
  obj := fun i h st b hb => by
    obtain ⟨⟨old, he⟩, ⟨o, ho, hc, hd⟩, _⟩ := st
    have e' : b = e ∨ b = it := by simpa using hb
    rcases e' with z | z
    · rw [z]; exact ⟨_, he, fun v q => nomatch q⟩
    · rw [z]; exact ⟨o, ho, fun v q => by rw [hd] at q; cases q⟩
  keep := fun i h h' st k => let ⟨⟨old, he⟩, hi, hne⟩ := st; ⟨⟨old, k e (by simp) _ he⟩, hi.at fun o q => k it (by simp) o q, hne⟩
  item := by
    intro X hP hw hK hc i pins s σ H E I hf st hg
    subst hP hw hK
    obtain ⟨⟨old, he⟩, hit, hne⟩ := st
    obtain ⟨xs, x, hq, hx⟩ := hg
    obtain ⟨its, rv, p, hz⟩ := I.tuple hq
    obtain ⟨u, hu, ru⟩ := rv.get hx
    have hel : e < s.heap.objs.size := Heap.lt_size he
    have hil : it < s.heap.objs.size := by obtain ⟨_, q, _⟩ := hit; exact Heap.lt_size q
    have hit0 := id hit
    obtain ⟨oi, hio, hic, _⟩ := hit0
    have p0 := id p
    obtain ⟨ot, hto, htc, _⟩ := p0
    have nti : a ≠ it := fun q => by
      subst q
      rw [hto] at hio
      cases hio
      rw [htc] at hic
      exact absurd hic (by decide)
    have nte : e ≠ a := fun q => by
      subst q
      have he2 : s.heap.get? e = _ := he
      rw [hto] at he2
      cases he2
      exact absurd (show Value.type "enumerate" = Value.type "tuple" from htc) (by decide)
    refine wpAny_pyNext_enum_itemD (Draws.tuple (A := X.A.in1) (I.ok.hd hc) it a nti its.toArray) he ⟨hit, p⟩ (by
      have := (List.getElem?_eq_some_iff.mp hu).1
      simpa using this) hne (by simp [hne, nte]) fun y h' tk hy ho hit' hT hsz hk => ?_
    have hy : its.toArray[i]? = some y := hy
    have hyu : y = u := by
      have : its[i]? = some y := by simpa using hy
      rw [hu] at this
      exact (Option.some.inj this).symm
    subst hyu
    refine ⟨_, rfl, wpAny_letOwnedTupleGo_enum (s := { s with heap := h', toks := tk + 1 }) ho fun h'' he' sb => ?_⟩
    have hT2 : h''.get? s.heap.objs.size = some { cls := .type "tuple", data := .seq #[.int i tk, y] } := (sb.2 _ (Nat.ne_of_gt hel)).trans hT
    have new : ObjOk X.prog X.w (upd H s.heap.objs.size (.tup [.int (i : Nat), x])) h'' s.heap.objs.size (.tup [.int (i : Nat), x]) :=
      ⟨by show 2 ≤ sizeLine; decide, [.int i tk, y], .cons ⟨_, rfl⟩ (.cons ru .nil), ⟨_, hT2, rfl, _, rfl⟩⟩
    have I1 : Inv X pins σ (upd H s.heap.objs.size (.tup [.int (i : Nat), x])) { s with heap := h'', toks := tk + 1 } :=
      I.turnedNew (ch := [e, it]) (fun b ob hb q => (sb.2 b (fun z => hb (by simp [z]))).trans (hk b ob (fun z => hb (by simp [z])) (fun z => hb (by simp [z])) q)) hf (Nat.le_refl _) new
    refine ⟨.ref s.heap.objs.size, _, I1, rfl, ⟨_, x, rfl, I.hok.fresh (Nat.le_refl _), rfl, fun ys hy => by rw [I.tuple_inj hy hq]; exact hx⟩, ⟨⟨y, ?_⟩, hit'.1.at fun o q => (sb.2 it (Ne.symm hne)).trans q, hne⟩, fun b hb => ?_⟩
    · have e1 : ((i + 1 : Nat) : Int) = (i : Int) + 1 := by omega
      rw [e1]; exact he'
    · have hb' : b < s.heap.objs.size := by
        have e' : b = e ∨ b = it := by simpa using hb
        rcases e' with z | z
        · rw [z]; exact hel
        · rw [z]; exact hil
      rw [upd_ne (Nat.ne_of_lt hb')]
      exact (hf b hb).1
  done := by
    intro X hP hw hK hc i pins s σ H E I hf st hg
    subst hP hw hK
    obtain ⟨⟨old, he⟩, hit, hne⟩ := st
    obtain ⟨xs, hq, hx⟩ := hg
    obtain ⟨its, rv, p, hz⟩ := I.tuple hq
    obtain ⟨f0, f1, f2, f3, f4, f5⟩ := hf it (by simp)
    have hl := rv.length
    have hit0 := id hit
    obtain ⟨oi, hio, hic, _⟩ := hit0
    have p0 := id p
    obtain ⟨ot, hto, htc, _⟩ := p0
    have nti : a ≠ it := fun q => by
      subst q
      rw [hto] at hio
      cases hio
      rw [htc] at hic
      exact absurd hic (by decide)
    refine wpAny_pyNext_enum_endD (Draws.tuple (A := X.A.in1) (I.ok.hd hc) it a nti its.toArray) he ⟨?_, p⟩ fun h' eb => ⟨rfl, I.turned (t' := s.toks) (fun b o hb q => eb b o hb q) f0 f1 f3 f4 f5⟩
    have : its.toArray.size = i := by simp; omega
    rw [this]
    exact hit
  self := fun A i s Q E st h => let ⟨⟨_, he⟩, _⟩ := st; wpAny_pyIter_enum he h
/-- enumerate of a list or a tuple -/
def iEnumA (K : PySem.W.Frag) (ta : TA) : TI := fun σ H R => ta σ H fun vs H1 => ∃ a xs, vs = [.ref a] ∧ ((SqL K H1 a xs ∧ R (Ite K a) H1) ∨ (SqT K H1 a xs ∧ R (IteT K a) H1))
theorem pi_enumA {X : Cx} {e : Expr} {ta : TA} {p pos tpos : Pos} {elts : List Expr} {kk : Nat} (hg : Gl X "enumerate") (hm : X.mg "enumerate" = none) (ha : PA X [e] ta) (hs : starEach [e] X.env = [(false, eval e X.env)] := by rfl) :
    PI X (.Tuple elts kk tpos) (.Call (.Name "enumerate" p) [e] [] pos) (iEnumA X.K ta) := by
  refine ⟨fun pins s σ H R I h => ?_⟩
  refine Call_ (ld_blt I hg hm boot_enumerate (PyProof.Rows.callWith_type1 (thn (ha.run pos pins s σ H _ I h) fun us s1 ⟨vs, H1, I1, r1, q1⟩ => ?_) hs rfl))
  obtain ⟨a, xs, ex, hq⟩ := q1
  subst ex
  cases r1 with
  | cons r rr =>
    cases rr
    cases r
    have fp : ∀ b ∈ [s1.heap.objs.size + 1, s1.heap.objs.size], FpOk X pins H1 b := fun b hb => by
      have e' : b = s1.heap.objs.size + 1 ∨ b = s1.heap.objs.size := by simpa using hb
      have hle : s1.heap.objs.size ≤ b := by
        rcases e' with z | z
        · rw [z]; exact Nat.le_add_right _ _
        · rw [z]; exact Nat.le_refl _
      exact I1.fpOk hle (I1.hok.fresh hle)
    rcases hq with ⟨hq, q⟩ | ⟨hq, q⟩
    · obtain ⟨its, rv, p', hz⟩ := I1.list hq
      refine call_enumerate_list p'.isList fun h' he hit hsz hk => wpAny_pyIter_enum he ?_
      have I2 : Inv X pins σ H1 { s1 with heap := h' } := I1.kept (t' := s1.toks) hk
      exact ⟨s1.heap.objs.size + 1, [s1.heap.objs.size + 1, s1.heap.objs.size], _, _, H1, rfl, I2, turn_enum a (s1.heap.objs.size + 1) s1.heap.objs.size, ⟨⟨.none, he⟩, hit, Nat.succ_ne_self _⟩, fp, q⟩
    · obtain ⟨its, rv, p', hz⟩ := I1.tuple hq
      refine call_enumT (begins_tuple a its.toArray) p' fun h' he hit hsz hk => wpAny_pyIter_enum he ?_
      have I2 : Inv X pins σ H1 { s1 with heap := h' } := I1.kept (t' := s1.toks) hk
      exact ⟨s1.heap.objs.size + 1, [s1.heap.objs.size + 1, s1.heap.objs.size], _, _, H1, rfl, I2, turn_enumT a (s1.heap.objs.size + 1) s1.heap.objs.size, ⟨⟨.none, he⟩, ⟨_, hit, rfl, rfl⟩, Nat.succ_ne_self _⟩, fp, q⟩
end Pu

set_option Elab.async false
set_option linter.all false
set_option maxRecDepth 100000
/-! Pu, what changes lists and dicts; targets; dict displays; what loops walk. -/
namespace Pu
open PySem L2 PySem.Spec PyProof.Rows

section
variable {F : Fm} {e a b : Expr} {es : List Expr} {pos p : Pos} {x : Str} {id T : String}

/-! ### methods that change a list of our own -/
theorem lent_is {s : Option Sl} {d : D} (h : lent s = some d) : s = some (.ow d) ∨ ∃ k, s = some (.io k d) := by
  match s, h with
  | some (.ow d'), h => cases h; exact .inl rfl
  | some (.io k d'), h => cases h; exact .inr ⟨k, rfl⟩
theorem lent_write {B : Bs} {σ : L2.St} {H : Hp} {ρ : En} {Z : Hp} {i : Nat} {d : D} (S : St1 F.K B σ H ρ Z []) (e : lent ρ[i]? = some d) :
    ∃ p o, σ[i]? = some (some (.ref p)) ∧ H p = some o ∧ RpO F.K Z o d ∧ ∀ o' d', RpO F.K Z o' d' → St1 F.K B σ (upd H p o') (ρ.set i (lentBack ρ[i]? d')) Z [] := by
  rcases lent_is e with h | ⟨k, h⟩
  · obtain ⟨p, o, h1, h2, h3, _⟩ := S.write (d' := d) h (.inl ⟨rfl, rfl⟩)
    refine ⟨p, o, h1, h2, h3, fun o' d' r => ?_⟩
    obtain ⟨p2, o2, g1, g2, g3, put⟩ := S.write (d' := d') h (.inl ⟨rfl, rfl⟩)
    rw [h1] at g1
    cases g1
    rw [h]
    exact put o' r
  · obtain ⟨p, o, h1, h2, h3, _⟩ := S.write (d' := d) h (.inr ⟨k, rfl, rfl⟩)
    refine ⟨p, o, h1, h2, h3, fun o' d' r => ?_⟩
    obtain ⟨p2, o2, g1, g2, g3, put⟩ := S.write (d' := d') h (.inr ⟨k, rfl, rfl⟩)
    rw [h1] at g1
    cases g1
    rw [h]
    exact put o' r
abbrev KM := D → List D → (D → D → Prop) → Prop
def MutD (F : Fm) (id : String) (k : KM) : Prop := ∃ r : V → List V → Hp → VK → Prop, (∀ i, MtR (F.X i) id r) ∧ ∀ (Z H : Hp) (p : Addr) (o : HO) (d : D) (us : List V) (ds : List D) (Q : VK) (Q' : D → D → Prop), Le Z H → H p = some o → RpO F.K Z o d → RpL F.K Z us ds → k d ds Q' →
  (∀ v e o' d', RpO F.K Z o' d' → Rp F.K Z v e → Q' e d' → Q v (upd H p o')) → r (.ref p) us H Q
@[simp] def wMut (T : String) (k : KM) (i : Nat) (as : WVs) : WE := fun E ρ Q => with1 (lent ρ[i]?) fun d0 => tyD T d0 ∧ as E ρ fun ds ρ1 => with1 (lent ρ1[i]?) fun d => k d ds fun e d' => Q (.fz e) (ρ1.set i (lentBack ρ1[i]? d'))
theorem tyD_own {Z H : Hp} {p : Addr} {o : HO} {d : D} (ha : H p = some o) (r : RpO F.K Z o d) (h : tyD T d) : tyV F.K T (.ref p) H := by
  cases d with
  | lst ds =>
    cases o with
    | lst vs => exact .inl ⟨h, vs, .of ha⟩
    | _ => exact (show False from r).elim
  | dic ks ds =>
    cases o with
    | dK kvs => exact .inr (.inr (.inl ⟨h, .inl ⟨kvs, ha⟩⟩))
    | _ => exact (show False from r).elim
  | str _ => cases o <;> exact r.elim
  | scr _ => cases o <;> exact r.elim
  | _ => exact (show False from h).elim
theorem mut_ok {i : Nat} {r : V → List V → Hp → VK → Prop} {k : KM} {t : TA} {wa : WVs}
    (hr : ∀ (Z H : Hp) (p : Addr) (o : HO) (d : D) (us : List V) (ds : List D) (Q : VK) (Q' : D → D → Prop), Le Z H → H p = some o → RpO F.K Z o d → RpL F.K Z us ds → k d ds Q' → (∀ v e o' d', RpO F.K Z o' d' → Rp F.K Z v e → Q' e d' → Q v (upd H p o')) → r (.ref p) us H Q)
    (ha : LVs F t wa) : LE F (tBM F.K T r (tVar i) t) (wMut T k i wa) := by
  refine LE.of fun B σ H ρ Z Q Q' E S X hw q => ?_
  obtain ⟨d0, e0, ty, hw⟩ := with1_of hw
  obtain ⟨p0, o0, h1, h2, h3, _⟩ := lent_write S e0
  refine ⟨.ref p0, h1, tyD_own h2 h3 ty, ha B σ H ρ Z _ _ E S X hw fun us ds H1 ρ1 Z1 S1 le1 rl hw => ?_⟩
  obtain ⟨d, e1, hk⟩ := with1_of hw
  obtain ⟨p, o, g1, g2, g3, put⟩ := lent_write S1 e1
  rw [h1] at g1
  cases g1
  exact hr Z1 H1 p0 o d us ds Q _ S1.sub g2 g3 rl hk fun v e o' d' ro rv hq => q v _ _ _ _ ((put o' d' ro).have rv) hq
theorem re_mut {k : KM} {wa : WVs} {name : Str} {apos cpos npos : Pos} (i : Nat) (hc : MutD F id k) (ha : RVs F (e :: es) wa) (pa : PlainAttrs T) (slot : Slot T name id) (hty : typeOf (.builtin id) = pure (.type "method_descriptor"))
    (hN : ∀ j, (F.X j).N[i]? = some x := by intro _; rfl) (hv : ∀ j, Vis (F.X j).env.scope x := by intro _; first | exact Or.inl rfl | exact Or.inr (Or.inl rfl) | exact Or.inr (Or.inr rfl)) (hd : (x == ("__debug__" : Str)) = false := by decide) (hcd : (x == ("__classdict__" : Str)) = false := by decide)
    (hbase : ∀ j, attributeBase (.Name x npos) name (F.X j).env (eval (.Name x npos) (F.X j).env) = eval (.Name x npos) (F.X j).env := by intro _; rfl)
    (hfew : ∀ i, ((backTo cpos (starEach (e :: es) (F.X i).env)).all (fun x => !x.1) && (backToKw cpos (keywordEach [] (F.X i).env)).all (fun x => x.1.isSome)
      && decide ((e :: es).length + ([] : List Keyword).length + (if ([] : List Keyword).isEmpty then 0 else 1) < 30)) = true := by intro _; rfl)
    (hline : (apos.endLine == cpos.line) = true := by rfl) (hs : ∀ i, starEach (e :: es) (F.X i).env = (false, eval e (F.X i).env) :: starEach es (F.X i).env := by intro _; rfl) (hplain : ∀ i, (backTo cpos (starEach es (F.X i).env)).any (·.1) = false := by intro _; rfl) :
    RE F (.Call (.Attribute (.Name x npos) name apos) (e :: es) [] cpos) (wMut T k i wa) := by
  obtain ⟨r, h1, h2⟩ := hc
  obtain ⟨t, a1, a2⟩ := ha
  exact ⟨tBM F.K T r (tVar i) t, fun j => by rw [← F.hK j]; exact pe_bm pa slot hty (h1 j) (pe_var (hN j) (hv j) hd hcd) (a1 j) (hbase j) (hfew j) hline (hs j) (hplain j), mut_ok h2 a2⟩
@[simp] def wMut0 (T : String) (k : KM) (i : Nat) : WE := fun E ρ Q => with1 (lent ρ[i]?) fun d => tyD T d ∧ k d [] fun e d' => Q (.fz e) (ρ.set i (lentBack ρ[i]? d'))
theorem re_mut0 {k : KM} {name : Str} {apos cpos npos : Pos} (i : Nat) (hc : MutD F id k) (pa : PlainAttrs T) (slot : Slot T name id) (hty : typeOf (.builtin id) = pure (.type "method_descriptor"))
    (hN : ∀ j, (F.X j).N[i]? = some x := by intro _; rfl) (hv : ∀ j, Vis (F.X j).env.scope x := by intro _; first | exact Or.inl rfl | exact Or.inr (Or.inl rfl) | exact Or.inr (Or.inr rfl)) (hd : (x == ("__debug__" : Str)) = false := by decide) (hcd : (x == ("__classdict__" : Str)) = false := by decide)
    (hbase : ∀ j, attributeBase (.Name x npos) name (F.X j).env (eval (.Name x npos) (F.X j).env) = eval (.Name x npos) (F.X j).env := by intro _; rfl)
    (hline : (apos.endLine == cpos.line) = true := by rfl) : RE F (.Call (.Attribute (.Name x npos) name apos) [] [] cpos) (wMut0 T k i) := by
  obtain ⟨r, h1, h2⟩ := hc
  refine ⟨tBM0 F.K T r (tVar i), fun j => by rw [← F.hK j]; exact pe_bm0 pa slot hty (h1 j) (pe_var (hN j) (hv j) hd hcd) (hbase j) hline, LE.of fun B σ H ρ Z Q Q' E S X hw q => ?_⟩
  obtain ⟨d, e0, ty, hk⟩ := with1_of hw
  obtain ⟨p, o, g1, g2, g3, put⟩ := lent_write S e0
  exact ⟨.ref p, g1, tyD_own g2 g3 ty, h2 Z H p o d [] [] Q _ S.sub g2 g3 .nil hk fun v e o' d' ro rv hq => q v _ _ _ _ ((put o' d' ro).have rv) hq⟩
theorem rpl1 {K : PySem.W.Frag} {Z : Hp} {us : List V} {d : D} (h : RpL K Z us [d]) : ∃ u, us = [u] ∧ Rp K Z u d := by
  cases h with
  | cons r t => cases t; exact ⟨_, rfl, r⟩
@[simp] def kAppend : KM := fun d ds Q => match d with
  | .lst xs => (match ds with
    | [] => False
    | y :: r => match r with
      | [] => xs.length < sizeLine ∧ Q .non (.lst (xs ++ [y]))
      | _ :: _ => False)
  | _ => False
theorem mu_append : MutD F "list.append" kAppend := ⟨rAppend, fun _ => mt_append, fun Z H p o d us ds Q Q' k ha ro rl hk q => by
  match d, ds, hk with
  | .lst xs, [y], hk =>
    obtain ⟨hz, hq⟩ := (show _ ∧ _ from hk)
    cases o with
    | lst vs =>
      have ro : RpL F.K Z vs xs := ro
      obtain ⟨u, rfl, ru⟩ := rpl1 rl
      exact ⟨p, vs, u, rfl, rfl, ha, by rw [ro.len]; exact hz, q .non .non (.lst _) (.lst _) (ro.snoc ru) .non hq⟩
    | _ => exact (show False from ro).elim⟩
theorem re_append {wa : WVs} {apos cpos npos : Pos} (i : Nat) (ha : RVs F [e] wa)
    (hN : ∀ j, (F.X j).N[i]? = some x := by intro _; rfl) (hv : ∀ j, Vis (F.X j).env.scope x := by intro _; first | exact Or.inl rfl | exact Or.inr (Or.inl rfl) | exact Or.inr (Or.inr rfl)) (hd : (x == ("__debug__" : Str)) = false := by decide) (hcd : (x == ("__classdict__" : Str)) = false := by decide)
    (hbase : ∀ j, attributeBase (.Name x npos) "append" (F.X j).env (eval (.Name x npos) (F.X j).env) = eval (.Name x npos) (F.X j).env := by intro _; rfl)
    (hfew : ∀ i, ((backTo cpos (starEach [e] (F.X i).env)).all (fun x => !x.1) && (backToKw cpos (keywordEach [] (F.X i).env)).all (fun x => x.1.isSome)
      && decide ([e].length + ([] : List Keyword).length + (if ([] : List Keyword).isEmpty then 0 else 1) < 30)) = true := by intro _; rfl)
    (hline : (apos.endLine == cpos.line) = true := by rfl) (hs : ∀ i, starEach [e] (F.X i).env = (false, eval e (F.X i).env) :: starEach [] (F.X i).env := by intro _; rfl) (hplain : ∀ i, (backTo cpos (starEach [] (F.X i).env)).any (·.1) = false := by intro _; rfl) :
    RE F (.Call (.Attribute (.Name x npos) "append" apos) [e] [] cpos) (wMut "list" kAppend i wa) := re_mut i mu_append ha PySem.F.plainAttrs_list PySem.F.slot_list_append PySem.F.type_list_append hN hv hd hcd hbase hfew hline hs hplain
@[simp] def kExtend : KM := fun d ds Q => match d with
  | .lst xs => (match ds with
    | [] => False
    | y :: r => match r with
      | [] => (match y with
        | .lst zs => xs.length + zs.length ≤ sizeLine ∧ Q .non (.lst (xs ++ zs))
        | _ => False)
      | _ :: _ => False)
  | _ => False
theorem mu_extend : MutD F "list.extend" kExtend := ⟨rExtend, fun _ => mt_extend, fun Z H p o d us ds Q Q' k ha ro rl hk q => by
  match d, ds, hk with
  | .lst xs, [y], hk =>
    cases y with
    | lst zs =>
      obtain ⟨hz, hq⟩ := (show _ ∧ _ from hk)
      cases o with
      | lst vs =>
        have ro : RpL F.K Z vs xs := ro
        obtain ⟨u, rfl, ru⟩ := rpl1 rl
        cases ru with
        | lst hb rz => exact ⟨p, _, vs, _, rfl, rfl, ha, k _ _ hb, by rw [ro.len, rz.len]; exact hz, q .non .non (.lst _) (.lst _) (ro.app rz) .non hq⟩
      | _ => exact (show False from ro).elim
    | _ => exact (show False from hk).elim⟩
theorem re_extend {wa : WVs} {apos cpos npos : Pos} (i : Nat) (ha : RVs F [e] wa)
    (hN : ∀ j, (F.X j).N[i]? = some x := by intro _; rfl) (hv : ∀ j, Vis (F.X j).env.scope x := by intro _; first | exact Or.inl rfl | exact Or.inr (Or.inl rfl) | exact Or.inr (Or.inr rfl)) (hd : (x == ("__debug__" : Str)) = false := by decide) (hcd : (x == ("__classdict__" : Str)) = false := by decide)
    (hbase : ∀ j, attributeBase (.Name x npos) "extend" (F.X j).env (eval (.Name x npos) (F.X j).env) = eval (.Name x npos) (F.X j).env := by intro _; rfl)
    (hfew : ∀ i, ((backTo cpos (starEach [e] (F.X i).env)).all (fun x => !x.1) && (backToKw cpos (keywordEach [] (F.X i).env)).all (fun x => x.1.isSome)
      && decide ([e].length + ([] : List Keyword).length + (if ([] : List Keyword).isEmpty then 0 else 1) < 30)) = true := by intro _; rfl)
    (hline : (apos.endLine == cpos.line) = true := by rfl) (hs : ∀ i, starEach [e] (F.X i).env = (false, eval e (F.X i).env) :: starEach [] (F.X i).env := by intro _; rfl) (hplain : ∀ i, (backTo cpos (starEach [] (F.X i).env)).any (·.1) = false := by intro _; rfl) :
    RE F (.Call (.Attribute (.Name x npos) "extend" apos) [e] [] cpos) (wMut "list" kExtend i wa) := re_mut i mu_extend ha PySem.F.plainAttrs_list PySem.F.slot_list_extend PySem.F.type_list_extend hN hv hd hcd hbase hfew hline hs hplain
theorem RpL.dl {K : PySem.W.Frag} {Z : Hp} {vs : List V} {ds : List D} (r : RpL K Z vs ds) : RpL K Z vs.dropLast ds.dropLast := by
  rw [List.dropLast_eq_take, List.dropLast_eq_take, r.len]
  exact r.take _
@[simp] def kPop : KM := fun d ds Q => match d with
  | .lst xs => (match ds with
    | [] => withO xs[xs.length - 1]? fun y => Q y (.lst xs.dropLast)
    | _ :: _ => False)
  | _ => False
theorem mu_pop : MutD F "list.pop" kPop := ⟨rPop, fun _ => mt_pop, fun Z H p o d us ds Q Q' k ha ro rl hk q => by
  match d, ds, hk with
  | .lst xs, [], hk =>
    obtain ⟨y, e1, hq⟩ := withO_of hk
    cases o with
    | lst vs =>
      have ro : RpL F.K Z vs xs := ro
      cases rl
      obtain ⟨v, e2, rv⟩ := ro.get e1
      exact ⟨p, vs, v, rfl, rfl, ha, by rw [ro.len]; exact e2, q v y (.lst _) (.lst _) ro.dl rv hq⟩
    | _ => exact (show False from ro).elim⟩
theorem re_pop {apos cpos npos : Pos} (i : Nat)
    (hN : ∀ j, (F.X j).N[i]? = some x := by intro _; rfl) (hv : ∀ j, Vis (F.X j).env.scope x := by intro _; first | exact Or.inl rfl | exact Or.inr (Or.inl rfl) | exact Or.inr (Or.inr rfl)) (hd : (x == ("__debug__" : Str)) = false := by decide) (hcd : (x == ("__classdict__" : Str)) = false := by decide)
    (hbase : ∀ j, attributeBase (.Name x npos) "pop" (F.X j).env (eval (.Name x npos) (F.X j).env) = eval (.Name x npos) (F.X j).env := by intro _; rfl)
    (hline : (apos.endLine == cpos.line) = true := by rfl) : RE F (.Call (.Attribute (.Name x npos) "pop" apos) [] [] cpos) (wMut0 "list" kPop i) := re_mut0 i mu_pop PySem.F.plainAttrs_list PySem.F.slot_list_pop PySem.F.type_list_pop hN hv hd hcd hbase hline
theorem RpL.er {K : PySem.W.Frag} {Z : Hp} : ∀ {vs : List V} {ds : List D} (r : RpL K Z vs ds) (n : Nat), RpL K Z (vs.eraseIdx n) (ds.eraseIdx n)
  | _, _, .nil, _ => .nil
  | _, _, .cons _ t, 0 => t
  | _, _, .cons h t, n + 1 => .cons h (RpL.er t n)
@[simp] def kPopAt : KM := fun d ds Q => match d with
  | .lst xs => (match ds with
    | [] => False
    | y :: r => match r with
      | [] => (match y with
        | .int i => (-(2 ^ 63) ≤ i ∧ i < 2 ^ 63) ∧ withO (seqIndex? i xs.length) fun n => withO xs[n]? fun z => Q z (.lst (xs.eraseIdx n))
        | _ => False)
      | _ :: _ => False)
  | _ => False
theorem mu_popAt : MutD F "list.pop" kPopAt := ⟨rPopAt, fun _ => mt_popAt, fun Z H p o d us ds Q Q' k ha ro rl hk q => by
  match d, ds, hk with
  | .lst xs, [y], hk =>
    cases y with
    | int i =>
      obtain ⟨⟨hz1, hz2⟩, hk⟩ := (show _ ∧ _ from hk)
      obtain ⟨n, e1, hk⟩ := withO_of hk
      obtain ⟨z, e2, hq⟩ := withO_of hk
      cases o with
      | lst vs =>
        have ro : RpL F.K Z vs xs := ro
        obtain ⟨u, rfl, ru⟩ := rpl1 rl
        cases ru
        obtain ⟨v, e3, rv⟩ := ro.get e2
        exact ⟨p, vs, i, n, v, rfl, rfl, ha, hz1, hz2, by rw [ro.len]; exact e1, e3, q v z (.lst _) (.lst _) (ro.er n) rv hq⟩
      | _ => exact (show False from ro).elim
    | _ => exact (show False from hk).elim⟩
theorem re_popAt {wa : WVs} {apos cpos npos : Pos} (i : Nat) (ha : RVs F [e] wa)
    (hN : ∀ j, (F.X j).N[i]? = some x := by intro _; rfl) (hv : ∀ j, Vis (F.X j).env.scope x := by intro _; first | exact Or.inl rfl | exact Or.inr (Or.inl rfl) | exact Or.inr (Or.inr rfl)) (hd : (x == ("__debug__" : Str)) = false := by decide) (hcd : (x == ("__classdict__" : Str)) = false := by decide)
    (hbase : ∀ j, attributeBase (.Name x npos) "pop" (F.X j).env (eval (.Name x npos) (F.X j).env) = eval (.Name x npos) (F.X j).env := by intro _; rfl)
    (hfew : ∀ i, ((backTo cpos (starEach [e] (F.X i).env)).all (fun x => !x.1) && (backToKw cpos (keywordEach [] (F.X i).env)).all (fun x => x.1.isSome)
      && decide ([e].length + ([] : List Keyword).length + (if ([] : List Keyword).isEmpty then 0 else 1) < 30)) = true := by intro _; rfl)
    (hline : (apos.endLine == cpos.line) = true := by rfl) (hs : ∀ i, starEach [e] (F.X i).env = (false, eval e (F.X i).env) :: starEach [] (F.X i).env := by intro _; rfl) (hplain : ∀ i, (backTo cpos (starEach [] (F.X i).env)).any (·.1) = false := by intro _; rfl) :
    RE F (.Call (.Attribute (.Name x npos) "pop" apos) [e] [] cpos) (wMut "list" kPopAt i wa) := re_mut i mu_popAt ha PySem.F.plainAttrs_list PySem.F.slot_list_pop PySem.F.type_list_pop hN hv hd hcd hbase hfew hline hs hplain

/-! ### targets x[e] -/
def putD (ks : List Ky) (xs : List D) (k : Ky) (d : D) : D := if (ks.any fun k' => decide (k' = k)) = true then .dic ks (ks.zip xs |>.map fun p => if p.1 = k then d else p.2) else .dic (ks ++ [k]) (xs ++ [d])
@[simp] def kPut (l x d : D) (Q : D → Prop) : Prop := match l with
  | .lst ds => (match x with
    | .int j => withO (ixN ds.length j) fun n => Q (.lst (ds.set n d))
    | _ => False)
  | .dic ks xs => ks.length < sizeLine ∧ withO (keyD x) fun k => Q (putD ks xs k d)
  | _ => False
@[simp] def gIx (i : Nat) (w : WR) : WG := fun s ρ Q => s.fr fun d => with1 (lent ρ[i]?) fun _ => w noEX ρ fun r ρ1 => with1 (lent ρ1[i]?) fun l => with1 (look ρ1 r) fun x => kPut l x d fun l' => Q (ρ1.set i (lentBack ρ1[i]? l'))
theorem put_rp {K : PySem.W.Frag} {Z : Hp} {kvs : List (Key × V)} {xs : List D} {k : Ky} {v : V} {d : D} (r : RpL K Z (kvs.map (·.2)) xs) (rv : Rp K Z v d) : RpO K Z (.dK (putK kvs k v)) (putD (kvs.map (·.1)) xs k d) := by
  unfold putK putD
  have he : ((kvs.map (·.1)).any fun k' => decide (k' = k)) = kvs.any fun kv => decide (kv.1 = k) := by rw [List.any_map]; rfl
  rw [he]
  by_cases h : (kvs.any fun kv => decide (kv.1 = k)) = true
  · rw [if_pos h, if_pos h]
    refine ⟨?_, ?_⟩
    · rw [List.map_map]
      refine List.map_congr_left fun kv _ => ?_
      by_cases e : kv.1 = k
      · simp [e]
      · simp [e]
    · clear h he
      induction kvs generalizing xs with
      | nil => cases r; exact .nil
      | cons kv kvs ih =>
        cases r with
        | cons r1 r2 =>
          refine .cons ?_ (ih r2)
          by_cases e : kv.1 = k
          · simpa [e] using rv
          · simpa [e] using r1
  · rw [if_neg h, if_neg h]
    refine ⟨by simp, ?_⟩
    rw [List.map_append]
    exact r.snoc rv
theorem rg_ix (i : Nat) {w : WR} {ppos npos : Pos} {vs : List Nat} (hw : RR F e w) (hN : ∀ j, (F.X j).N[i]? = some x := by intro _; rfl) (hv : ∀ j, Vis (F.X j).env.scope x := by intro _; first | exact Or.inl rfl | exact Or.inr (Or.inl rfl) | exact Or.inr (Or.inr rfl)) (hd : (x == ("__debug__" : Str)) = false := by decide) (hcd : (x == ("__classdict__" : Str)) = false := by decide)
    (ha : ∀ j v, assign (.Subscript (.Name x npos) e ppos) (F.X j).env v = (do
      let ov ← holding [v] (eval (.Name x npos) (F.X j).env)
      let iv ← holding [v, ov] (eval e (F.X j).env)
      standAt ppos
      holding [v, ov, iv] (setItem ov iv v)
      release [v, ov, iv] []) := by intro _ _; rfl) : RG F (.Subscript (.Name x npos) e ppos) (gIx i w) vs := by
  obtain ⟨t, a1, a2⟩ := hw
  have hset : ∀ j, PSet (F.X j) (fun o i v H Q => rSetL o i v H Q ∨ rSetD o i v H Q) := fun j pins s σ H o i v ov iv u Q I ro ri rv h => by
    rcases h with h | h
    · exact set_list pins s σ H o i v ov iv u Q I ro ri rv h
    · exact set_dict (un1 (F.un j)) pins s σ H o i v ov iv u Q I ro ri rv h
  refine ⟨_, fun j => pg_sub (pe_var (hN j) (hv j) hd hcd) (a1 j) (hset j) (ha j), fun B σ H ρ Z v s Q Q' S hw q => ?_⟩
  obtain ⟨d, hs, hw⟩ := fr_of hw
  obtain ⟨Z1, le1, S1, rv⟩ := S.thaw1 hs
  obtain ⟨_, e0, hw⟩ := with1_of hw
  obtain ⟨p0, _, hvv, _⟩ := lent_write S1 e0
  have main : ∀ vv : V, σ[i]? = some (some vv) → t σ H (fun y H2 => (rSetL vv y v H2 fun H3 => Q σ H3) ∨ rSetD vv y v H2 fun H3 => Q σ H3) := fun vv hvv => by
    refine a2 B σ H ρ Z1 _ _ noEX S1 (fun _ _ _ _ _ _ _ _ _ _ _ q => q.elim) hw fun y r H2 ρ2 Z2 S2 le2 o2 hw => ?_
    obtain ⟨l, e1, hw⟩ := with1_of hw
    obtain ⟨dx, e2, hk⟩ := with1_of hw
    obtain ⟨p, o, g1, g2, g3, put⟩ := lent_write S2 e1
    rw [hvv] at g1
    cases g1
    have ry := S2.read o2 e2
    cases l with
    | lst ds =>
      cases dx with
      | int j =>
        obtain ⟨n, e3, hq⟩ := withO_of (show withO _ _ from hk)
        cases o with
        | lst us =>
          have g3 : RpL F.K Z2 us ds := g3
          exact .inl ⟨p, us, j, n, rfl, rd_int ry, g2, by rw [g3.len]; exact e3, q σ _ _ _ (put (.lst _) (.lst _) (RpL.set (ds := []) (vs := []) (Rp.le le2 _ _ rv) n g3)) (le1.trans' le2) rfl hq⟩
        | _ => exact (show False from g3).elim
      | _ => exact (show False from hk).elim
    | dic ks xs =>
      obtain ⟨hz, hk⟩ := (show _ ∧ _ from hk)
      obtain ⟨k, e3, hq⟩ := withO_of hk
      cases o with
      | dK kvs =>
        obtain ⟨h1, h2⟩ := (show _ ∧ _ from g3)
        subst h1
        refine .inr ⟨p, _, rfl, .inl ⟨kvs, k, g2, keyD_v ry e3, by rw [List.length_map] at hz; exact hz, rfl⟩, q σ _ _ _ (put (.dK _) _ (put_rp h2 (Rp.le le2 _ _ rv))) (le1.trans' le2) rfl hq⟩
      | _ => exact (show False from g3).elim
    | _ => exact (show False from hk).elim
  exact ⟨_, hvv, main _ hvv⟩
/-- a tuple of n targets -/
@[simp] def tlD : D → Option (List D)
  | .tup ds => some ds
  | .lst ds => some ds
  | _ => none
@[simp] def gTn (n : Nat) (gs : WGs) : WG := fun s ρ Q => s.fr fun d => withO (tlD d) fun ds => ds.length = n ∧ gs ds ρ Q
theorem PG.or {X : Cx} {tg : Expr} {g1 g2 : TG} (h1 : PG X tg g1) (h2 : PG X tg g2) : PG X tg (fun v σ H Q => g1 v σ H Q ∨ g2 v σ H Q) :=
  ⟨fun pins s σ H v u Q I r h => h.elim (h1.run pins s σ H v u Q I r) (h2.run pins s σ H v u Q I r)⟩
theorem rg_tn {kk n : Nat} {gs : WGs} {vs : List Nat} (h : RGs F es gs vs) (hn : ∀ i, (assignEach es (F.X i).env).length = n := by intro _; rfl) (hst : ∀ i, (assignEach es (F.X i).env).findIdx? (·.1) = none := by intro _; rfl) : RG F (.Tuple es kk pos) (gTn n gs) vs := by
  obtain ⟨t, a1, a2⟩ := h
  refine ⟨fun v σ H Q => gTup F.K n t v σ H Q ∨ gLst F.K n t v σ H Q, fun i => by rw [← F.hK i]; exact PG.or (pg_tup (F.calm i) (a1 i) (hn i) (hst i)) (pg_lst (F.calm i) (a1 i) (hn i) (hst i)), fun B σ H ρ Z v s Q Q' S hw q => ?_⟩
  obtain ⟨d, hs, hw⟩ := fr_of hw
  obtain ⟨ds, e, hl, hw2⟩ := withO_of hw
  obtain ⟨Z1, le1, S1, r⟩ := S.thaw1 hs
  cases d with
  | tup ds =>
    cases e
    cases r with
    | tup hz rl => exact .inl ⟨_, _, rfl, .inl (rd_le hz S1.sub), rl.len.trans hl, a2 B σ H ρ Z1 _ _ _ _ S1 rl hw2 fun σ2 H2 ρ2 Z2 S2 le2 w2 hw => q σ2 H2 ρ2 Z2 S2 (le1.trans' le2) w2 hw⟩
  | lst ds =>
    cases e
    cases r with
    | lst hz rl => exact .inr ⟨_, _, rfl, .of (S1.sub _ _ hz), rl.len.trans hl, a2 B σ H ρ Z1 _ _ _ _ S1 rl hw2 fun σ2 H2 ρ2 Z2 S2 le2 w2 hw => q σ2 H2 ρ2 Z2 S2 (le1.trans' le2) w2 hw⟩
  | _ => cases e
end
end Pu

set_option Elab.async false
set_option linter.all false
set_option maxRecDepth 100000
/-! Pu, what loops walk; chains; dict displays. -/
namespace Pu
open PySem L2 PySem.Spec PyProof.Rows

section
variable {F : Fm} {e a b c tg : Expr} {es : List Expr} {pos p : Pos} {x : Str} {id T : String}

/-! ### what loops walk -/
@[simp] def iSq (w : WE) : WI := fun E ρ Q => w E ρ fun s ρ1 => s.fr fun d => withO (seqD d) fun ds => Q ds ρ1
@[simp] def iSt (w : WE) : WI := fun E ρ Q => w E ρ fun s ρ1 => s.fr fun d => match d with
  | .str z => Q (z.cps.toList.map fun c => .str ⟨#[c]⟩) ρ1
  | _ => False
@[simp] def iEn (w : WE) : WI := fun E ρ Q => w E ρ fun s ρ1 => s.fr fun d => withO (seqD d) fun ds => Q (numbered 0 ds) ρ1
@[simp] def zp (Q : List D → Prop) (d d2 : D) : Prop := match d with
  | .lst xs => (match d2 with
    | .lst ys => Q (paired xs ys)
    | _ => False)
  | .tup xs => (match d2 with
    | .tup ys => Q (paired xs ys)
    | _ => False)
  | _ => False
@[simp] def iZp (u w : WE) : WI := fun E ρ Q => u E ρ fun s ρ1 => s.fr fun d => w E ρ1 fun s2 ρ2 => s2.fr fun d2 => zp (Q · ρ2) d d2
theorem seq_z {B : Bs} {σ : L2.St} {H : Hp} {ρ : En} {Z : Hp} {v : V} {d : D} {ds : List D} (S : St1 F.K B σ H ρ Z []) (r : Rp F.K Z v d) (e : seqD d = some ds) : ∃ a vs, v = .ref a ∧ (SqL F.K Z a vs ∨ SqT F.K Z a vs) ∧ RpL F.K Z vs ds := by
  cases d with
  | lst xs =>
    cases e
    cases r with
    | lst h1 h2 => exact ⟨_, _, rfl, .inl (.of h1), h2⟩
  | tup xs =>
    cases e
    cases r with
    | tup h1 h2 => exact ⟨_, _, rfl, .inr (.inl h1), h2⟩
  | scr ns =>
    cases e
    cases r with
    | scr h1 => exact ⟨_, _, rfl, .inl h1, RpL.ints ns⟩
  | _ => cases e
theorem sqT_le {K : PySem.W.Frag} {Z Z' : Hp} {a : Addr} {xs : List V} (h : SqT K Z a xs) (k : Le Z Z') : SqT K Z' a xs := by
  rcases h with h | h
  · exact .inl (rd_le h k)
  · exact .inr h
theorem it_list {K : PySem.W.Frag} {Z : Hp} {a : Addr} {vs : List V} {ds : List D} (h : SqL K Z a vs) (r : RpL K Z vs ds) : ItOk K (Itl K a) Z ds := by
  refine ⟨fun i H le hi => ?_, fun H le => ⟨vs, sqL_le h le, Nat.le_of_eq r.len⟩, fun i d H x H' le e y => ?_⟩
  · have hi' : i < vs.length := by rw [r.len]; exact hi
    exact ⟨vs, vs[i], sqL_le h le, by simp [hi']⟩
  · obtain ⟨rfl, y⟩ := y
    obtain ⟨v, e2, rv⟩ := r.get e
    have := y vs (sqL_le h le)
    rw [e2] at this
    cases this
    exact .inl ⟨rfl, rv⟩
theorem it_tup {K : PySem.W.Frag} {Z : Hp} {a : Addr} {vs : List V} {ds : List D} (h : SqT K Z a vs) (r : RpL K Z vs ds) : ItOk K (Itt K a) Z ds := by
  refine ⟨fun i H le hi => ?_, fun H le => ⟨vs, sqT_le h le, Nat.le_of_eq r.len⟩, fun i d H x H' le e y => ?_⟩
  · have hi' : i < vs.length := by rw [r.len]; exact hi
    exact ⟨vs, vs[i], sqT_le h le, by simp [hi']⟩
  · obtain ⟨rfl, y⟩ := y
    obtain ⟨v, e2, rv⟩ := r.get e
    have := y vs (sqT_le h le)
    rw [e2] at this
    cases this
    exact .inl ⟨rfl, rv⟩
theorem numbered_get : ∀ {ds : List D} {k i : Nat} {d : D}, (numbered k ds)[i]? = some d → ∃ y, ds[i]? = some y ∧ d = .tup [.int ((k + i : Nat) : Int), y]
  | [], k, i, d, e => by simp [numbered] at e
  | x :: ds, k, 0, d, e => by
    have e : some _ = some d := e
    cases e
    exact ⟨x, rfl, rfl⟩
  | x :: ds, k, i + 1, d, e => by
    obtain ⟨y, h1, h2⟩ := numbered_get (ds := ds) (k := k + 1) (i := i) (by simpa [numbered] using e)
    exact ⟨y, by simpa using h1, by rw [h2]; congr 3; omega⟩
theorem numbered_len : ∀ (ds : List D) (k : Nat), (numbered k ds).length = ds.length
  | [], _ => rfl
  | _ :: ds, k => congrArg (· + 1) (numbered_len ds (k + 1))
theorem it_enum {K : PySem.W.Frag} {Z : Hp} {a : Addr} {vs : List V} {ds : List D} (h : SqL K Z a vs) (r : RpL K Z vs ds) : ItOk K (Ite K a) Z (numbered 0 ds) := by
  refine ⟨fun i H le hi => ?_, fun H le => ⟨vs, sqL_le h le, by rw [numbered_len, r.len]; exact Nat.le_refl _⟩, fun i d H x H' le e y => ?_⟩
  · have hi' : i < vs.length := by rw [r.len, ← numbered_len ds 0]; exact hi
    exact ⟨vs, vs[i], sqL_le h le, by simp [hi']⟩
  · obtain ⟨T, z, rfl, hT, rfl, y⟩ := y
    obtain ⟨d', e2, rfl⟩ := numbered_get e
    obtain ⟨v, e3, rv⟩ := r.get e2
    have := y vs (sqL_le h le)
    rw [e3] at this
    cases this
    exact .inr ⟨T, _, _, hT, rfl, rfl, rfl, .cons (by rw [Nat.zero_add]; exact .int _) (.cons rv .nil)⟩
theorem it_enumT {K : PySem.W.Frag} {Z : Hp} {a : Addr} {vs : List V} {ds : List D} (h : SqT K Z a vs) (r : RpL K Z vs ds) : ItOk K (IteT K a) Z (numbered 0 ds) := by
  refine ⟨fun i H le hi => ?_, fun H le => ⟨vs, sqT_le h le, by rw [numbered_len, r.len]⟩, fun i d H x H' le e y => ?_⟩
  · have hi' : i < vs.length := by rw [r.len, ← numbered_len ds 0]; exact hi
    exact ⟨vs, vs[i], sqT_le h le, by simp [hi']⟩
  · obtain ⟨T, z, rfl, hT, rfl, y⟩ := y
    obtain ⟨d', e2, rfl⟩ := numbered_get e
    obtain ⟨v, e3, rv⟩ := r.get e2
    have := y vs (sqT_le h le)
    rw [e3] at this
    cases this
    exact .inr ⟨T, _, _, hT, rfl, rfl, rfl, .cons (by rw [Nat.zero_add]; exact .int _) (.cons rv .nil)⟩
/-- a list or a tuple, walked -/
def iSqV (K : PySem.W.Frag) (tl : TE) : TI := fun σ H R => tl σ H fun x H1 => ∃ a xs, x = .ref a ∧ ((SqL K H1 a xs ∧ R (Itl K a) H1) ∨ (SqT K H1 a xs ∧ R (Itt K a) H1))
theorem pi_sq {X : Cx} {l : Expr} {tl : TE} (hl : PE X l tl) : PI X tg l (iSqV X.K tl) := by
  refine ⟨fun pins s σ H R I h => ?_⟩
  refine thn (hl.run pins s σ H _ I h) fun v s1 ⟨x, H1, I1, r1, q1⟩ => ?_
  obtain ⟨a, xs, e, q1⟩ := q1
  subst e
  cases r1
  have fp : ∀ b ∈ [s1.heap.objs.size], FpOk X pins H1 b := fun b hb => by
    have e : b = s1.heap.objs.size := by simpa using hb
    subst e
    exact I1.fpOk (Nat.le_refl _) (I1.hok.fresh (Nat.le_refl _))
  rcases q1 with ⟨hq, q⟩ | ⟨hq, q⟩
  · obtain ⟨its, rv, p, hz⟩ := I1.list hq
    exact wpAny_pyIter_list p.isList ⟨s1.heap.objs.size, [s1.heap.objs.size], _, _, H1, rfl, I1.kept (t' := s1.toks) fun b o e => Heap.get?_push_of_some _ e, turn_list a _, ⟨_, Heap.get?_push_size _ rfl, rfl, rfl⟩, fp, q⟩
  · obtain ⟨its, rv, p, hz⟩ := I1.tuple hq
    exact wpAny_pyIter_tuple (show s1.heap.IsTuple a its.toArray from p) ⟨s1.heap.objs.size, [s1.heap.objs.size], _, _, H1, rfl, I1.kept (t' := s1.toks) fun b o e => Heap.get?_push_of_some _ e, turn_tuple a _, ⟨_, Heap.get?_push_size _ rfl, rfl, rfl⟩, fp, q⟩
theorem ri_sq {w : WE} (h : RE F e w) : RI F tg e (iSq w) := by
  obtain ⟨t, a1, a2⟩ := h
  refine ⟨iSqV F.K t, fun i => by rw [← F.hK i]; exact pi_sq (a1 i), fun B σ H ρ Z R R' E S X hw q => a2 B σ H ρ Z _ _ E S X hw fun v s H1 ρ1 Z1 S1 le1 hw => ?_⟩
  obtain ⟨d, hs, hw⟩ := fr_of hw
  obtain ⟨ds, e1, hq⟩ := withO_of hw
  obtain ⟨Z2, le2, S2, r⟩ := S1.thaw1 hs
  obtain ⟨p, vs, rfl, hsq, rl⟩ := seq_z S2 r e1
  rcases hsq with hs | hs
  · exact ⟨p, vs, rfl, .inl ⟨sqL_le hs S2.sub, q _ ds H1 ρ1 Z2 S2 (le1.trans' le2) (it_list hs rl) hq⟩⟩
  · exact ⟨p, vs, rfl, .inr ⟨sqT_le hs S2.sub, q _ ds H1 ρ1 Z2 S2 (le1.trans' le2) (it_tup hs rl) hq⟩⟩
theorem ri_st {w : WE} (h : RE F e w) : RI F tg e (iSt w) := by
  obtain ⟨t, a1, a2⟩ := h
  refine ⟨_, fun i => pi_str (a1 i), fun B σ H ρ Z R R' E S X hw q => a2 B σ H ρ Z _ _ E S X hw fun v s H1 ρ1 Z1 S1 le1 hw => ?_⟩
  obtain ⟨d, hs, hw⟩ := fr_of hw
  obtain ⟨Z2, le2, S2, r⟩ := S1.thaw1 hs
  cases d with
  | str z =>
    cases r
    refine ⟨z, rfl, q (Its z) _ H1 ρ1 Z2 S2 (le1.trans' le2) ⟨fun i H le hi => ?_, fun H le => ?_, fun i d H x H' le e y => ?_⟩ hw⟩
    · simpa [Its] using hi
    · simp [Its]
    · obtain ⟨rfl, c, e2, rfl⟩ := y
      have e : (z.cps.toList.map fun c => D.str ⟨#[c]⟩)[i]? = some d := e
      rw [List.getElem?_map] at e
      have e3 : z.cps.toList[i]? = some c := by simpa using e2
      rw [e3] at e
      cases e
      exact .inl ⟨rfl, .str _⟩
  | _ => exact (show False from hw).elim
theorem rng_get {a b : Int} {i : Nat} {d : D} (e : (rangeD a b)[i]? = some d) : d = .int (a + (i : Nat)) := by
  unfold rangeD at e
  rw [List.getElem?_map] at e
  cases h : (List.range (b - a).toNat)[i]? with
  | none => rw [h] at e; cases e
  | some j =>
    rw [h] at e
    have := List.getElem?_eq_some_iff.mp h
    obtain ⟨h1, h2⟩ := this
    rw [List.getElem_range] at h2
    subst h2
    have e : some _ = some d := e
    cases e
    rfl
theorem rng_len {a b : Int} : (rangeD a b).length = (b - a).toNat := by unfold rangeD; simp
theorem it_rng {K : PySem.W.Frag} {Z : Hp} {a b : Int} : ItOk K (Itr a (b - a).toNat) Z (rangeD a b) :=
  ⟨fun i H le hi => by rw [rng_len] at hi; exact hi, fun H le => by rw [rng_len]; exact Nat.le_refl _, fun i d H x H' le e y => by
    obtain ⟨rfl, rfl⟩ := y
    rw [rng_get e]
    exact .inl ⟨rfl, .int _⟩⟩
theorem ri_rng1 {pr : Pos} {w : WR} (h : RR F e w) (hm : ∀ i, (F.X i).mg "range" = none) (hg : ∀ i, Gl (F.X i) "range" := by intro _; rfl) (hs : ∀ i, starEach [e] (F.X i).env = [(false, eval e (F.X i).env)] := by intro _; rfl) : RI F tg (.Call (.Name "range" pr) [e] [] pos) (iRng1 w) := by
  obtain ⟨t, a1, a2⟩ := h
  refine ⟨_, fun i => pi_range1 (hg i) (hm i) (pa_cons (a1 i) pa_nil (hs i)) (hs i), fun B σ H ρ Z R R' E S X hw q => a2 B σ H ρ Z _ _ E S X hw fun x r H1 ρ1 Z1 S1 le1 o1 hw => ?_⟩
  obtain ⟨d, e1, hk⟩ := with1_of hw
  cases d with
  | int b =>
    obtain ⟨⟨h1, h2⟩, hq⟩ := (show _ ∧ _ from hk)
    refine ⟨b, by rw [rd_int (S1.read o1 e1)], h1, h2, ?_⟩
    have := it_rng (K := F.K) (Z := Z1) (a := 0) (b := b)
    rw [Int.sub_zero] at this
    exact q _ _ H1 ρ1 Z1 S1 le1 this hq
  | _ => exact (show False from hk).elim
theorem ri_rng2 {pr : Pos} {u w : WR} (h : RR F a u) (h' : RR F b w) (hm : ∀ i, (F.X i).mg "range" = none) (hg : ∀ i, Gl (F.X i) "range" := by intro _; rfl) (hs : ∀ i, starEach [a, b] (F.X i).env = [(false, eval a (F.X i).env), (false, eval b (F.X i).env)] := by intro _; rfl)
    (hs2 : ∀ i, starEach [b] (F.X i).env = [(false, eval b (F.X i).env)] := by intro _; rfl) : RI F tg (.Call (.Name "range" pr) [a, b] [] pos) (iRng2 u w) := by
  obtain ⟨t, a1, a2⟩ := h
  obtain ⟨t', b1, b2⟩ := h'
  refine ⟨_, fun i => pi_range2 (hg i) (hm i) (pa_cons (a1 i) (pa_cons (b1 i) pa_nil (hs2 i)) (by rw [hs i, hs2 i])) (hs i) (hs2 i), fun B σ H ρ Z R R' E S X hw q => a2 B σ H ρ Z _ _ E S X hw fun x r H1 ρ1 Z1 S1 le1 o1 hw => b2 B σ H1 ρ1 Z1 _ _ E S1 X hw fun y r2 H2 ρ2 Z2 S2 le2 o2 hw => ?_⟩
  obtain ⟨dx, dy, e1, e2, hk⟩ := with2_of hw
  cases dx with
  | int i =>
    cases dy with
    | int j =>
      obtain ⟨hh, hq⟩ := (show _ ∧ _ from hk)
      exact ⟨i, j, by rw [rd_int (S2.read (o1.le le2) e1), rd_int (S2.read o2 e2)], hh, q _ _ H2 ρ2 Z2 S2 (le1.trans' le2) it_rng hq⟩
    | _ => exact (show False from hk).elim
  | _ => exact (show False from hk).elim
def k1' (f : D → Prop) : List D → Prop
  | [] => False
  | d :: r => match r with
    | [] => f d
    | _ :: _ => False
theorem k1'_of {f : D → Prop} {ds : List D} (h : k1' f ds) : ∃ d, ds = [d] ∧ f d := by
  match ds, h with
  | [d], h => exact ⟨d, rfl, h⟩
def k2' (f : D → D → Prop) : List D → Prop
  | [] => False
  | d :: r => match r with
    | [] => False
    | e :: r => match r with
      | [] => f d e
      | _ :: _ => False
theorem k2'_of {f : D → D → Prop} {ds : List D} (h : k2' f ds) : ∃ d e, ds = [d, e] ∧ f d e := by
  match ds, h with
  | [d, e], h => exact ⟨d, e, rfl, h⟩
theorem rpl2 {K : PySem.W.Frag} {Z : Hp} {us : List V} {d e : D} (h : RpL K Z us [d, e]) : ∃ u w, us = [u, w] ∧ Rp K Z u d ∧ Rp K Z w e := by
  cases h with
  | cons r t =>
    obtain ⟨w, rfl, q⟩ := rpl1 t
    exact ⟨_, w, rfl, r, q⟩
theorem ri_en {pr tpos : Pos} {elts : List Expr} {kk : Nat} {w : WE} (h : RE F e w) (hm : ∀ i, (F.X i).mg "enumerate" = none) (hg : ∀ i, Gl (F.X i) "enumerate" := by intro _; rfl) (hs : ∀ i, starEach [e] (F.X i).env = [(false, eval e (F.X i).env)] := by intro _; rfl) :
    RI F (.Tuple elts kk tpos) (.Call (.Name "enumerate" pr) [e] [] pos) (iEn w) := by
  obtain ⟨t, a1, a2⟩ := rvs_cons h rvs_nil hs
  refine ⟨iEnumA F.K t, fun i => by rw [← F.hK i]; exact pi_enumA (hg i) (hm i) (a1 i) (hs i), fun B σ H ρ Z R R' E S X hw q => a2 B σ H ρ Z _ (fun ds ρ1 => k1' (fun d => withO (seqD d) fun ds => R' (numbered 0 ds) ρ1) ds) E S X hw fun vs0 ds0 H1 ρ1 Z2 S2 le2 rl0 hw => ?_⟩
  obtain ⟨d, rfl, hw⟩ := k1'_of hw
  obtain ⟨v, rfl, r⟩ := rpl1 rl0
  obtain ⟨ds, e1, hq⟩ := withO_of hw
  obtain ⟨p, vs, rfl, hsq, rl⟩ := seq_z S2 r e1
  rcases hsq with hs | hs
  · exact ⟨p, vs, rfl, .inl ⟨sqL_le hs S2.sub, q _ _ H1 ρ1 Z2 S2 le2 (it_enum hs rl) hq⟩⟩
  · exact ⟨p, vs, rfl, .inr ⟨sqT_le hs S2.sub, q _ _ H1 ρ1 Z2 S2 le2 (it_enumT hs rl) hq⟩⟩
theorem paired_get : ∀ {xs ys : List D} {i : Nat} {d : D}, (paired xs ys)[i]? = some d → ∃ x y, xs[i]? = some x ∧ ys[i]? = some y ∧ d = .tup [x, y]
  | [], _, i, d, e => by simp [paired] at e
  | _ :: _, [], i, d, e => by simp [paired] at e
  | x :: xs, y :: ys, 0, d, e => by
    have e : some _ = some d := e
    cases e
    exact ⟨x, y, rfl, rfl, rfl⟩
  | x :: xs, y :: ys, i + 1, d, e => by
    obtain ⟨u, w, h1, h2, h3⟩ := paired_get (xs := xs) (ys := ys) (i := i) (by simpa [paired] using e)
    exact ⟨u, w, by simpa using h1, by simpa using h2, h3⟩
theorem paired_len : ∀ (xs ys : List D), (paired xs ys).length = min xs.length ys.length
  | [], _ => by simp [paired]
  | _ :: _, [] => by simp [paired]
  | x :: xs, y :: ys => by simp [paired, paired_len xs ys]
theorem ri_zp {pr tpos : Pos} {elts : List Expr} {kk : Nat} {u w : WE} (h : RE F a u) (h' : RE F b w) (hm : ∀ i, (F.X i).mg "zip" = none) (hg : ∀ i, Gl (F.X i) "zip" := by intro _; rfl) (hs : ∀ i, starEach [a, b] (F.X i).env = (false, eval a (F.X i).env) :: starEach [b] (F.X i).env := by intro _; rfl)
    (hs2 : ∀ i, starEach [b] (F.X i).env = (false, eval b (F.X i).env) :: starEach [] (F.X i).env := by intro _; rfl) (hpl : ∀ i, (backTo pos (starEach [b] (F.X i).env)).any (·.1) = false := by intro _; rfl) :
    RI F (.Tuple elts kk tpos) (.Call (.Name "zip" pr) [a, b] [] pos) (iZp u w) := by
  obtain ⟨t, a1, a2⟩ := rvs_cons h (rvs_cons h' rvs_nil hs2) hs
  refine ⟨RZ.iZipA F.K t, fun i => by rw [← F.hK i]; exact RZ.pi_zipA (hg i) (hm i) (a1 i) (hs i) (hpl i), fun B σ H ρ Z R R' E S X hw q => a2 B σ H ρ Z _ (fun ds ρ1 => k2' (fun d d2 => zp (R' · ρ1) d d2) ds) E S X hw fun vs0 ds0 H2 ρ2 Z3 S3 lez rl0 hw => ?_⟩
  obtain ⟨d, d2, rfl, hw⟩ := k2'_of hw
  obtain ⟨v, v2, rfl, r1, r3⟩ := rpl2 rl0
  cases d with
  | lst xs =>
    cases d2 with
    | lst ys =>
      cases r1 with
      | lst h1 g1 =>
        cases r3 with
        | lst h2 g2 =>
          rename_i pa vs pb us
          refine ⟨pa, pb, vs, us, rfl, .inl ⟨.of (S3.sub _ _ h1), .of (S3.sub _ _ h2), q _ _ H2 ρ2 Z3 S3 lez ⟨fun i H le hi => ?_, fun H le => ⟨vs, us, .of (le _ _ h1), .of (le _ _ h2), ?_⟩, fun i d H x H' le e y => ?_⟩ hw⟩⟩
          · rw [paired_len, ← g1.len, ← g2.len] at hi
            have i1 : i < vs.length := by omega
            have i2 : i < us.length := by omega
            exact ⟨vs, us, vs[i], us[i], .of (le _ _ h1), .of (le _ _ h2), by simp [i1], by simp [i2]⟩
          · rw [paired_len, ← g1.len, ← g2.len]; omega
          · obtain ⟨T, x1, y1, rfl, hT, rfl, y2, y3⟩ := y
            obtain ⟨dx, dy, e1, e2, rfl⟩ := paired_get e
            obtain ⟨v1, e3, rv1⟩ := g1.get e1
            obtain ⟨v2, e4, rv2⟩ := g2.get e2
            have q1 := y2 vs (.of (le _ _ h1))
            have q2 := y3 us (.of (le _ _ h2))
            rw [e3] at q1
            rw [e4] at q2
            cases q1
            cases q2
            exact .inr ⟨T, _, _, hT, rfl, rfl, rfl, .cons rv1 (.cons rv2 .nil)⟩
    | _ => exact (show False from hw).elim
  | tup xs =>
    cases d2 with
    | tup ys =>
      cases r1 with
      | tup h1 g1 =>
        cases r3 with
        | tup h2 g2 =>
          rename_i pa vs pb us
          refine ⟨pa, pb, vs, us, rfl, .inr ⟨.inl (rd_le h1 S3.sub), .inl (rd_le h2 S3.sub), q _ _ H2 ρ2 Z3 S3 lez ⟨fun i H le hi => ?_, fun H le => ⟨vs, us, .inl (rd_le h1 le), .inl (rd_le h2 le), ?_⟩, fun i d H x H' le e y => ?_⟩ hw⟩⟩
          · rw [paired_len, ← g1.len, ← g2.len] at hi
            have i1 : i < vs.length := by omega
            have i2 : i < us.length := by omega
            exact ⟨vs, us, vs[i], us[i], .inl (rd_le h1 le), .inl (rd_le h2 le), by simp [i1], by simp [i2]⟩
          · rw [paired_len, ← g1.len, ← g2.len]; omega
          · obtain ⟨T, x1, y1, rfl, hT, rfl, y2, y3⟩ := y
            obtain ⟨dx, dy, e1, e2, rfl⟩ := paired_get e
            obtain ⟨v1, e3, rv1⟩ := g1.get e1
            obtain ⟨v2, e4, rv2⟩ := g2.get e2
            have q1 := y2 vs (.inl (rd_le h1 le))
            have q2 := y3 us (.inl (rd_le h2 le))
            rw [e3] at q1
            rw [e4] at q2
            cases q1
            cases q2
            exact .inr ⟨T, _, _, hT, rfl, rfl, rfl, .cons rv1 (.cons rv2 .nil)⟩
    | _ => exact (show False from hw).elim
  | _ => exact (show False from hw).elim

/-! ### a op b op' c -/
@[simp] def wChain (k k' : K2) (a b c : WR) : WE := fun E ρ Q => a E ρ fun r1 ρ1 => b E ρ1 fun r2 ρ2 => with2 (look ρ2 r1) (look ρ2 r2) fun x y => k x y fun s => match s with
  | .fz (.bl d) => if d = true then c E ρ2 fun r3 ρ3 => with2 (look ρ3 r2) (look ρ3 r3) fun y z => k' y z fun s' => Q s' ρ3 else Q (.fz (.bl false)) ρ2
  | _ => False
theorem chain_ok {ta tb tc : TE} {wa wb wc : WR} {r r' : R2} {k k' : K2} (ha : LR F ta wa) (hb : LR F tb wb) (hc : LR F tc wc) (hr : ∀ B σ H ρ Z x y dx dy Q Q', St1 F.K B σ H ρ Z [] → Rd1 F.K Z H x dx → Rd1 F.K Z H y dy → k dx dy Q' → Rc F B σ ρ Q' Q → r x y H Q)
    (hr' : ∀ B σ H ρ Z x y dx dy Q Q', St1 F.K B σ H ρ Z [] → Rd1 F.K Z H x dx → Rd1 F.K Z H y dy → k' dx dy Q' → Rc F B σ ρ Q' Q → r' x y H Q) : LE F (tChain r r' ta tb tc) (wChain k k' wa wb wc) := by
  refine LE.of fun B σ H ρ Z Q Q' E S X hw q => ha B σ H ρ Z _ _ E S X hw fun x r1 H1 ρ1 Z1 S1 le1 o1 hw => hb B σ H1 ρ1 Z1 _ _ E S1 X hw fun y r2 H2 ρ2 Z2 S2 le2 o2 hw => ?_
  obtain ⟨dx, dy, e1, e2, hk⟩ := with2_of hw
  obtain ⟨B', S2', back⟩ := S2.base
  refine hr B' σ H2 ρ2 Z2 x y dx dy _ _ S2' (S2.read (o1.le le2) e1) (S2.read o2 e2) hk fun v s H' Z' S' hq => ?_
  obtain ⟨S3, le3⟩ := back _ _ _ _ _ S'
  cases s with
  | fz d =>
    cases d with
    | bl d =>
      obtain ⟨Z4, le4, S4, rv⟩ := S3.thaw1 (.inl rfl)
      cases rv
      refine ⟨d, rfl, ?_⟩
      cases d with
      | true =>
        rw [if_pos rfl]
        have hq : wc E ρ2 fun r3 ρ3 => with2 (look ρ3 r2) (look ρ3 r3) fun y z => k' y z fun s' => Q' s' ρ3 := by simpa using hq
        refine hc B σ H' ρ2 Z4 _ _ E S4 X hq fun z r3 H5 ρ5 Z5 S5 le5 o5 hw => ?_
        obtain ⟨dy', dz, e3, e4, hk⟩ := with2_of hw
        exact hr' B σ H5 ρ5 Z5 y z dy' dz Q _ S5 (S5.read (((o2.le le3).le le4).le le5) e3) (S5.read o5 e4) hk fun v s H6 Z6 S6 hq => q v s H6 ρ5 Z6 S6 hq
      | false =>
        have hq : Q' (.fz (.bl false)) ρ2 := by simpa using hq
        rw [if_neg Bool.false_ne_true]
        exact q _ _ _ _ _ (S4.have (.bl false)) hq
    | _ => exact (show False from hq).elim
  | _ => exact (show False from hq).elim
theorem re_chain {op op' : CmpOp} {k k' : K2} {wa wb wc : WR} (ho : OpD F (compareOp op) k) (ho' : OpD F (compareOp op') k') (ha : RR F a wa) (hb : RR F b wb) (hc : RR F c wc) (hm : lastMarks [op, op'] [b, c] = false := by with_unfolding_all rfl) : RE F (.Compare a [op, op'] [b, c] pos) (wChain k k' wa wb wc) := by
  obtain ⟨r, h1, h2⟩ := ho
  obtain ⟨r', g1, g2⟩ := ho'
  obtain ⟨ta, a1, a2⟩ := ha
  obtain ⟨tb, b1, b2⟩ := hb
  obtain ⟨tc, c1, c2⟩ := hc
  exact ⟨_, fun i => pe_chain (h1 i) (g1 i) (a1 i) (b1 i) (c1 i) hm, chain_ok a2 b2 c2 h2 g2⟩
theorem rt_chain {op op' : CmpOp} {k k' : K2} {wa wb wc : WR} (ho : OpD F (compareOp op) k) (ho' : OpD F (compareOp op') k') (ha : RR F a wa) (hb : RR F b wb) (hc : RR F c wc) (hm : lastMarks [op, op'] [b, c] = false := by with_unfolding_all rfl) : RT F (.Compare a [op, op'] [b, c] pos) (tV (wChain k k' wa wb wc)) := by
  obtain ⟨r, h1, h2⟩ := ho
  obtain ⟨r', g1, g2⟩ := ho'
  obtain ⟨ta, a1, a2⟩ := ha
  obtain ⟨tb, b1, b2⟩ := hb
  obtain ⟨tc, c1, c2⟩ := hc
  refine ⟨_, fun i => pt_chain (h1 i) (g1 i) (a1 i) (b1 i) (c1 i) hm, fun B σ H ρ Z Q Q' E S X hw q => chain_ok a2 b2 c2 h2 g2 B σ H ρ Z _ _ E S X hw fun x s H1 ρ1 Z1 S1 le1 hw => ?_⟩
  cases s with
  | fz d =>
    cases d with
    | bl c =>
      obtain ⟨Z2, le2, S2, r⟩ := S1.thaw1 (.inl rfl)
      cases r
      exact ⟨c, rfl, q c H1 ρ1 Z2 S2 (le1.trans' le2) hw⟩
    | _ => exact (show False from hw).elim
  | _ => exact (show False from hw).elim

/-! ### {k: v, ..} -/
/-- texts or ints as keys, from the left -/
abbrev WPs := EX → En → (List (Ky × D) → En → Prop) → Prop
@[simp] def psN : WPs := fun _ ρ Q => Q [] ρ
@[simp] def psC (k v : WE) (r : WPs) : WPs := fun E ρ Q => k E ρ fun s ρ1 => s.fr fun dk => withO (keyD dk) fun k => v E ρ1 fun s2 ρ2 => s2.fr fun d => r E ρ2 fun ps ρ3 => Q ((k, d) :: ps) ρ3
@[simp] def mergeD : D → List (Ky × D) → D
  | d, [] => d
  | .dic ks xs, (k, v) :: r => mergeD (putD ks xs k v) r
  | d, _ :: _ => d
@[simp] def wDic (r : WPs) : WE := fun E ρ Q => r E ρ fun ps ρ1 => ps.length ≤ 15 ∧ Q (.ow (mergeD (.dic [] []) ps)) ρ1
def LPs (F : Fm) (trs : List (TE × TE)) (w : WPs) : Prop := ∀ B σ H ρ Z (Q : List (V × V) → Hp → Prop) Q' E, St1 F.K B σ H ρ Z [] → ExOk F B E → w E ρ Q' → (∀ vs ps H' ρ' Z', St1 F.K B σ H' ρ' Z' [] → Le Z Z' → Paired (fun (p : V × V) (q : Ky × D) => p.1 = kV q.1 ∧ Rp F.K Z' p.2 q.2) vs ps → Q' ps ρ' → Q vs H') → tPairs trs σ H Q
def RPs (F : Fm) (pos : Pos) (keys : List (Option Expr)) (values : List Expr) (w : WPs) : Prop := ∃ trs, (∀ i, PPs (F.X i) pos keys values trs) ∧ LPs F trs w
theorem rps_nil : RPs F pos [] [] psN := ⟨[], fun _ => pps_nil, fun B σ H ρ Z Q Q' E S X hw q => q [] [] H ρ Z S (fun _ _ z => z) .nil hw⟩
theorem rps_cons {k v : Expr} {ks : List (Option Expr)} {vs : List Expr} {wk wv : WE} {wr : WPs} (hk : RE F k wk) (hv : RE F v wv) (hr : RPs F pos ks vs wr) : RPs F pos (some k :: ks) (v :: vs) (psC wk wv wr) := by
  obtain ⟨tk, a1, a2⟩ := hk
  obtain ⟨tv, b1, b2⟩ := hv
  obtain ⟨tr, c1, c2⟩ := hr
  refine ⟨_, fun i => pps_cons (a1 i) (b1 i) (c1 i), fun B σ H ρ Z Q Q' E S X hw q => a2 B σ H ρ Z _ _ E S X hw fun x s H1 ρ1 Z1 S1 le1 hw => ?_⟩
  obtain ⟨dk, hs, hw⟩ := fr_of hw
  obtain ⟨key, ek, hw⟩ := withO_of hw
  obtain ⟨Z1', le1', S1', r⟩ := S1.thaw1 hs
  refine b2 B σ H1 ρ1 Z1' _ _ E S1' X hw fun y s2 H2 ρ2 Z2 S2 le2 hw => ?_
  obtain ⟨d, hs2, hw⟩ := fr_of hw
  obtain ⟨Z3, le3, S3, r3⟩ := S2.thaw1 hs2
  refine c2 B σ H2 ρ2 Z3 _ _ E S3 X hw fun vs ps H4 ρ4 Z4 S4 le4 pr hw => ?_
  exact q _ _ H4 ρ4 Z4 S4 (le1.trans' (le1'.trans' (le2.trans' (le3.trans' le4)))) (.cons ⟨keyD_v (K := F.K) (Z := Z1') (H := H1) (.inl r) ek, Rp.le le4 _ _ r3⟩ pr) hw
theorem merge_rp {K : PySem.W.Frag} {Z : Hp} : ∀ {more : List (Key × V)} {ps : List (Ky × D)} {kvs : List (Key × V)} {xs : List D}, Paired (fun (p : Key × V) (q : Ky × D) => p.1 = q.1 ∧ Rp K Z p.2 q.2) more ps → RpL K Z (kvs.map (·.2)) xs → RpO K Z (.dK (mergeK kvs more)) (mergeD (.dic (kvs.map (·.1)) xs) ps)
  | _, _, kvs, xs, .nil, r => ⟨rfl, r⟩
  | (k, v) :: more, (k', d) :: ps, kvs, xs, .cons h t, r => by
    obtain ⟨h1, h2⟩ := h
    have h1 : k = k' := h1
    subst h1
    have := put_rp (k := k) r h2
    show RpO K Z (.dK (mergeK (putK kvs k v) more)) (mergeD (putD (kvs.map (·.1)) xs k d) ps)
    have e : ∃ xs', putD (kvs.map (·.1)) xs k d = .dic ((putK kvs k v).map (·.1)) xs' ∧ RpL K Z ((putK kvs k v).map (·.2)) xs' := by
      unfold putD at this ⊢
      split at this
      · rename_i hh
        rw [if_pos hh]
        exact ⟨_, by rw [this.1], this.2⟩
      · rename_i hh
        rw [if_neg hh]
        exact ⟨_, by rw [this.1], this.2⟩
    obtain ⟨xs', e, r'⟩ := e
    rw [e]
    exact merge_rp t r'
theorem pairs_kv {K : PySem.W.Frag} {Z : Hp} {vs : List (V × V)} {ps : List (Ky × D)} (pr : Paired (fun (p : V × V) (q : Ky × D) => p.1 = kV q.1 ∧ Rp K Z p.2 q.2) vs ps) :
    ∃ kvs : List (Key × V), vs = kvs.map (fun kv => (kV kv.1, kv.2)) ∧ Paired (fun (p : Key × V) (q : Ky × D) => p.1 = q.1 ∧ Rp K Z p.2 q.2) kvs ps := by
  induction pr with
  | nil => exact ⟨[], rfl, .nil⟩
  | cons h t ih =>
    rename_i a b l r
    obtain ⟨kvs, e, pk⟩ := ih
    refine ⟨(b.1, a.2) :: kvs, ?_, .cons ⟨rfl, h.2⟩ pk⟩
    rw [e]
    show _ = (kV b.1, a.2) :: _
    rw [← h.1]
theorem re_dic {keys : List (Option Expr)} {values : List Expr} {w : WPs} (h : RPs F pos keys values w) (hall : keys.all (·.isSome) = true := by rfl) (hl : keys.length = values.length := by rfl) (h0 : keys ≠ [] := by intro h; cases h) (h15 : keys.length ≤ 15 := by decide) : RE F (.Dict keys values pos) (wDic w) := by
  obtain ⟨t, a1, a2⟩ := h
  refine ⟨tDisp t, fun i => pe_disp (a1 i) hall hl h0 h15, LE.of fun B σ H ρ Z Q Q' E S X hw q => fun p hp => ?_⟩
  have S0 : St1 F.K B σ (upd H p (.dK [])) ρ Z [(.ref p, .ow (.dic [] []))] := S.alloc1 (o := .dK []) (d := .dic [] []) hp ⟨rfl, .nil⟩
  obtain ⟨B', S', back⟩ := S0.hold (.inr ⟨_, rfl⟩)
  have X' : ExOk F B' E := fun σ' H' ρ' Z' C dx v d S r rp qq => X σ' H' ρ' Z' C dx v d (back _ _ _ _ _ S).1.drop r rp qq
  refine a2 B' σ _ ρ Z _ _ E S' X' hw fun vs ps H1 ρ1 Z1 S1 le1 pr ⟨hz, hw⟩ => ?_
  obtain ⟨S2, _⟩ := back _ _ _ _ _ S1
  obtain ⟨o, ho, ro, put⟩ := S2.writeT
  have ho' : o = .dK [] := by
    cases o with
    | dK kvs =>
      obtain ⟨h1, h2⟩ := (show _ ∧ _ from ro)
      cases kvs with
      | nil => rfl
      | cons _ _ => cases h1
    | _ => exact (show False from ro).elim
  subst ho'
  obtain ⟨kvs, e1, pk⟩ := pairs_kv pr
  refine ⟨ho, kvs, e1, by rw [pd_len pk]; exact hz, q _ _ _ _ _ (put _ _ (merge_rp (kvs := []) pk .nil)) hw⟩
end
end Pu

set_option Elab.async false
set_option linter.all false
set_option maxRecDepth 100000
/-! Pu, set(xs), xs a list of ints, over the heap. -/
namespace L2
open PySem PySem.Spec PyProof.Rows
section
variable {P : Program} {w : World} {A : Around} {E : Value → Shared → Prop} {s : Shared}
set_option maxRecDepth 100000 in
set_option maxHeartbeats 3200000 in
theorem call_set_lstI {l : Addr} {items : Array Value} (ns : List Int) {Q : Value → Shared → Prop} (hh : A.handled = none) (hl : s.heap.IsList l items) (hit : IntsAre items.toList ns) (hb : ns.length + 1 < scanBound)
    (h : ∀ (h' : Heap) (tk c : Nat), SetR w h' s.heap.objs.size (fun j => decide (j ∈ ns)) c → c ≤ ns.length → (∀ b o, s.heap.get? b = some o → h'.get? b = some o) → Q (.ref s.heap.objs.size) { s with heap := h', toks := tk }) :
    wpAny (model P w) A (call (.type "set") [.ref l]) Q E s := by
  have hisz : items.size = ns.length := by
    have q := IntsAre.length hit
    rw [Array.length_toList] at q
    exact q
  obtain ⟨c, tl, hmro⟩ := F.called_set.mro
  have hmade := F.called_set.made
  have hsub := F.called_set.sub
  refine wpAny_call (codeAny_of_tree ?_)
  show wpAny _ _ (callAny (.type "set") _) _ _ _
  refine wpAny_pure ⟨Code.quiet_builtin _ (by decide +kernel), codeAny_builtin F.entry_type_call ?_⟩
  rw [Around.under_plain (weight_type_call_type "set" [.ref l] []) rfl]
  have h1 := F.called_set.notType
  have h2 := F.called_set.canCreate
  have hct := F.typeCall_set_1 (.ref l)
  repeat (any_goals (first | assumption | wp_step))

  refine codeAny_mono (code_set_led1 (.ref l) (E := E) (Q₁ := fun obj s₁ => obj = .ref s.heap.objs.size ∧ s₁ = { s with heap := s.heap.push { cls := .type "set", dict := none, data := .set #[] 0 (.fresh 0 0 (!w.params.followText "set-order")) } }) ⟨rfl, rfl⟩) fun r s₁ hr => ?_
  cases r with
  | error e => exact hr
  | ok fl =>
    cases fl with
    | ret obj =>
      obtain ⟨rfl, rfl⟩ := hr
      have hS : (s.heap.push { cls := .type "set", dict := none, data := .set #[] 0 (.fresh 0 0 (!w.params.followText "set-order")) }).get? s.heap.objs.size = some { cls := .type "set", dict := none, data := .set #[] 0 (.fresh 0 0 (!w.params.followText "set-order")) } := Heap.get?_push_size _ rfl
      have hT : Shared.TypeIs { s with heap := s.heap.push { cls := .type "set", dict := none, data := .set #[] 0 (.fresh 0 0 (!w.params.followText "set-order")) } } (.ref s.heap.objs.size) "set" := ⟨_, hS, rfl⟩
      have hli := F.called_set.init.lookup
      have hbi := F.called_set.init.bind (.ref s.heap.objs.size)
      repeat (any_goals (first | assumption | wp_step))

      refine codeAny_mono (codeAny_call_builtin (R := wants (fun r s₂ => r = .none ∧ ∃ h' tk c, s₂ = { s with heap := h', toks := tk } ∧ SetR w h' s.heap.objs.size (fun j => decide (j ∈ ns)) c ∧ c ≤ ns.length ∧
          (∀ b o, s.heap.get? b = some o → h'.get? b = some o)) E) F.called_set.init.plain F.entry_set_init (check_set_init_1 hT ?_)) fun r₂ s₂ hr₂ => ?_
      · obtain ⟨ol, hol, hcl, nl, hdl⟩ := hl
        obtain ⟨ocls, odict, odata, oslots⟩ := ol
        simp only at hcl hdl
        subst hcl; subst hdl
        have hol' : (s.heap.push { cls := .type "set", dict := none, data := .set #[] 0 (.fresh 0 0 (!w.params.followText "set-order")) }).get? l = some { cls := .type "list", dict := odict, data := .seq items nl, slots := oslots } := Heap.get?_push_of_some _ hol
        have hsls := F.sub_list_set
        have hslf := F.sub_list_frozenset
        have hne : (Value.type "list" == Value.type "dict") = false := by decide
        have hl1 : (s.heap.push { cls := .type "set", dict := none, data := .set #[] 0 (.fresh 0 0 (!w.params.followText "set-order")) }).IsList l items := ⟨_, hol', rfl, nl, rfl⟩
        unfold Builtin.«set.__init__» noKeywords Builtin.Frozenset.updateFrom
        generalize hPI : pyIter = PI
        wp_walk
        subst hPI

        refine wpAny_pyIter_list hl1 ?_
        refine wpAny_bind (wpAny_runValue ?_)
        have hlS : l < s.heap.objs.size := Heap.lt_size hol
        have hh3 : A.in1.in1.in1.handled = none := by simp [hh]
        have hz1 : (s.heap.push { cls := .type "set", dict := none, data := .set #[] 0 (.fresh 0 0 (!w.params.followText "set-order")) }).objs.size = s.heap.objs.size + 1 := Heap.size_push ..
        have hneI : l ≠ (s.heap.push { cls := .type "set", dict := none, data := .set #[] 0 (.fresh 0 0 (!w.params.followText "set-order")) }).objs.size := by
          rw [Heap.size_push]; exact Nat.ne_of_lt (Nat.lt_succ_of_lt hlS)
        have hSf : s.heap.objs.size ∉ [(s.heap.push { cls := .type "set", dict := none, data := .set #[] 0 (.fresh 0 0 (!w.params.followText "set-order")) }).objs.size, l] := by
          rw [Heap.size_push]; simp only [List.mem_cons, List.mem_singleton, List.not_mem_nil, or_false, not_or]
          exact ⟨Nat.ne_of_lt (Nat.lt_succ_self _), Nat.ne_of_gt hlS⟩
        have hval : ∀ (i : Nat) (v : Value), items[i]? = some v → ∃ k t, ns[i]? = some k ∧ v = .int k t := fun i v hv => by
          have hi : i < ns.length := by rw [← hisz]; exact (Array.getElem?_eq_some_iff.mp hv).1
          obtain ⟨t, e⟩ := PyProof.Rows.IntsAre.int_at hit i v (by rw [Array.getElem?_toList]; exact hv)
          refine ⟨ns[i], t, List.getElem?_eq_getElem hi, ?_⟩
          rw [e, List.getD_eq_getElem?_getD, List.getElem?_eq_getElem hi] <;> rfl
        refine set_update_ints ((Walks.list hh3 _ l hneI items).toS) s.heap.objs.size
          hSf ns hisz hb hval (items.size - 0) 0 _ (by omega) (Nat.zero_le _)
          ⟨⟨_, Heap.get?_push_size _ rfl, rfl, rfl⟩, (hl1.push _)⟩ ?hS0 ?hR
        case hS0 =>
          have hget : ((s.heap.push { cls := .type "set", dict := none, data := .set #[] 0 (.fresh 0 0 (!w.params.followText "set-order")) }).push { cls := .type "list_iterator", data := .fields #[.ref l, .int 0 0] }).get? s.heap.objs.size
              = some { cls := .type "set", dict := none, data := .set #[] 0 (.fresh 0 0 (!w.params.followText "set-order")) } := Heap.get?_push_of_some _ hS
          exact ⟨0, Nat.le_refl 0, setR_new_at hget⟩
        case hR =>
          intro s' c' hm hc' hS'
          obtain ⟨h', g2, d', tk', os'⟩ := s'
          have eg : g2 = s.gens := hm.gens
          have ed : d' = s.drawn := hm.drawn
          have eo : os' = s.os := hm.os
          subst eg; subst ed; subst eo
          show wpAny _ _ _ _ _ _
          refine wpAny_pure ?_
          show wpAny _ _ (ret Value.none) _ _ _
          rw [hisz] at hc'
          refine wpAny_pure ⟨rfl, h', tk', c', rfl, hS', hc', fun b o e => ?_⟩
          have hb0 : b < s.heap.objs.size := Heap.lt_size e
          have hb1 : b ≠ s.heap.objs.size := Nat.ne_of_lt hb0
          have hb2 : b ≠ (s.heap.push { cls := .type "set", dict := none, data := .set #[] 0 (.fresh 0 0 (!w.params.followText "set-order")) }).objs.size := by
            rw [Heap.size_push]; exact Nat.ne_of_lt (Nat.lt_succ_of_lt hb0)
          exact hm.heap b o (by simp only [List.mem_cons, List.mem_singleton, List.not_mem_nil, or_false, not_or]; exact ⟨hb1, hb2⟩) (Heap.get?_push_of_some _ (Heap.get?_push_of_some _ e))

      · cases r₂ with
        | error e => exact hr₂
        | ok fl₂ =>
          cases fl₂ with
          | ret r =>
            obtain ⟨rfl, h', tk, c', rfl, hS', hc', hk'⟩ := hr₂
            repeat (any_goals (first | assumption | wp_step))
            exact h _ _ _ hS' hc' hk'
          | _ => exact hr₂.elim
    | _ => exact hr.elim

end
end L2

set_option Elab.async false
set_option linter.all false
set_option maxRecDepth 100000
/-! Pu, sorted, repr, dict(zip(..)), isinstance, index on a told tuple. -/
namespace Pu
open PySem L2 PySem.Spec PyProof.Rows PySem.W

/-! ### sorted -/
section
variable {prog : Program} {w : World} {A : Around} {E : Value → Shared → Prop} {s : Shared}
theorem collect_tupL {l : Addr} {vs : List Value} {Q : List Value → Shared → Prop} (hl : s.heap.IsTuple l vs.toArray)
    (h : Q vs { s with heap := (s.heap.push (seqObj "list" #[] 0)).update s.heap.objs.size (Obj.mapSeq (· ++ vs.toArray)) }) (hsz : vs.length ≤ sizeLine) :
    wpAny (model prog w) A (collect (.ref l)) Q E s := by
  obtain ⟨o, ho, hc, n, hd⟩ := id hl
  unfold collect
  refine wpAny_bind (wpAny_runValue (codeAny_builtin entry_proto_collect' ?_))
  show wpAny _ _ (do again (.builtin "list.__iadd__" ⟨[← newList [], .ref l], []⟩)) _ _ s
  refine wpAny_bind (wpAny_newList (wpAny_pure ⟨Code.quiet_builtin _ (by decide +kernel), codeAny_builtin entry_list_iadd' ?_⟩))
  show wpAny _ _ (Builtin.List.listExtendWith (.ref s.heap.objs.size) (.ref l) (.ref s.heap.objs.size)) _ _ { s with heap := s.heap.push (seqObj "list" #[] 0) }
  unfold Builtin.List.listExtendWith
  have ho' : (s.heap.push (seqObj "list" #[] 0)).get? l = some o := Heap.get?_push_of_some _ ho
  refine wpAny_bind (wpAny_typeOf (T := "tuple") ⟨o, ho', hc⟩ ?_)
  have ht : (Value.type "tuple" == Value.type "tuple") = true := by rfl
  rw [if_pos (by rw [ht]; simp)]
  refine wpAny_bind (listItems_at ho' hd ?_)
  refine wpAny_bind (listItems_at (xs := #[]) (n := 0) (Heap.get?_push_size _ rfl) rfl ?_)
  rw [if_neg (by simp)]
  refine wpAny_bind (listUpdate_at (xs := #[]) (n := 0) (Heap.get?_push_size _ rfl) rfl ?_ (Nat.zero_le _) (by show (#[] ++ vs.toArray).size ≤ sizeLine + 1; simp only [Array.size_append, List.size_toArray, List.length_nil]; omega))
  refine wpAny_pure ?_
  show wpAny (model prog w) A (do
      let o ← load s.heap.objs.size
      match o.data with
      | .seq xs _ => pure xs.toList
      | _ => unsupported "internal:collect") Q E { s with heap := (s.heap.push (seqObj "list" #[] 0)).update s.heap.objs.size (Obj.mapSeq (· ++ vs.toArray)) }
  refine wpAny_bind (wpAny_load (get?_update_seq (Heap.get?_push_size _ rfl) _) ?_)
  show wpAny _ _ (pure ((#[] : Array Value) ++ vs.toArray).toList) Q E _
  rw [show ((#[] : Array Value) ++ vs.toArray).toList = vs by simp]
  exact wpAny_pure h
theorem sorted_of_sortT {l : Addr} {vs : List Value} {Q : Value → Shared → Prop} (hl : s.heap.IsTuple l vs.toArray) (hL : vs.length ≤ sizeLine)
    (body : ∀ E' : Value → Shared → Prop, wpAny (model prog w) A.in1.in1 (Builtin.«list.sort» ⟨[.ref (s.heap.objs.size + 1)], []⟩) (fun f s' => f = .done (.ret .none) ∧ Q (.ref (s.heap.objs.size + 1)) s') E' { s with heap := copyHeap s.heap vs }) :
    wpAny (model prog w) A (call (.builtin "sorted") [.ref l]) Q E s := by
  refine call_function_entry_kw kind_sorted plain_sorted entry_sorted (args_sorted1 _) ?_
  unfold Builtin.«sorted»
  refine wpAny_bind (m := checkCount "sorted" 1 1 _) (wpAny_pure ?_)
  refine wpAny_bind (collect_tupL hl ?_ hL)
  refine wpAny_bind (wpAny_newList ?_ hL)
  have hsz : ((s.heap.push (seqObj "list" #[] 0)).update s.heap.objs.size (Obj.mapSeq (· ++ vs.toArray))).objs.size = s.heap.objs.size + 1 := by
    rw [Heap.size_update, size_push']
  show wpAny _ _ _ _ _ { s with heap := copyHeap s.heap vs }
  rw [hsz]
  refine wpAny_bind (wpAny_holding (wpAny_call_entry_kw slot_list_sort ⟨_, copyHeap_at s.heap vs, rfl⟩ entry_list_sort ?body (args_list_sort _)))
  case body =>
    show wpAny (model prog w) A.in1.in1 (Builtin.«list.sort» ⟨[.ref (s.heap.objs.size + 1)], []⟩) _ _ _
    refine wpAny_mono (body _) (fun f s' hf => ?_) fun _ _ e => e
    obtain ⟨rfl, hq⟩ := hf
    exact ⟨_, rfl, wpAny_pure ⟨_, rfl, hq⟩⟩
theorem sorted_both {β : Type} {vs : List Value} {bs : List β} {enc : β → PyData} {R : Value → β → Prop} {l : Addr} {Q : Value → Shared → Prop} (hl : s.heap.IsList l vs.toArray ∨ s.heap.IsTuple l vs.toArray) (e : EachIs R vs bs) (er : EachIs (fun v b => ∃ as, Reads s.heap v (enc b) as) vs bs) (hal : AllAlike (bs.map enc)) (hk : Sortable (bs.map enc)) (hL : bs.length ≤ sizeLine)
    (hu : ∀ b, b ∈ bs → A.units + 2 + (enc b).depth < cLine) (h : ∀ out, out.length = bs.length → EachIs R out (bs.mergeSort (dataLe false enc)) → Q (.ref (s.heap.objs.size + 1)) { s with heap := sortedAll s.heap vs (List.toArray out) }) :
    wpAny (model prog w) A (call (.builtin "sorted") [.ref l]) Q E s := by
  rcases hl with hl | hl
  · exact sorted_data hl e er hal hk hL hu h
  · have er' : EachIs (fun v b => ∃ as, Reads (sortingHeap (copyHeap s.heap vs) (s.heap.objs.size + 1) vs) v (enc b) as) vs bs := er.mono fun _ _ ⟨as, r⟩ => ⟨as, PyProof.Rows.Reads.keeps (fun _ _ => sorting_copy_old) r⟩
    have S : SortsAt prog w A.in1.in1 { s with heap := sortingHeap (copyHeap s.heap vs) (s.heap.objs.size + 1) vs } _ vs :=
      SortsAt.data (s := { s with heap := sortingHeap (copyHeap s.heap vs) (s.heap.objs.size + 1) vs }) (each_map (R := fun v d => ∃ as, Reads (sortingHeap (copyHeap s.heap vs) (s.heap.objs.size + 1) vs) v d as) enc er') hal hk (bound_map hu)
    exact sorted_of_sortT hl (by rw [e.length]; exact hL) fun _ => list_sort_vals (s := { s with heap := copyHeap s.heap vs }) (copyHeap_at s.heap vs) S (by rw [e.length]; exact hL) ⟨rfl, h _ (by rw [sortVals_length false rfl]; exact e.length) (sortVals_data false e er' hal)⟩
end
theorem pys_map : ∀ ds : List D, pys ds = ds.map D.py
  | [] => rfl
  | d :: ds => congrArg (d.py :: ·) (pys_map ds)
/-- sorted(xs): xs a list or a tuple of data -/
def leD (x y : D) : Bool := dataLe false D.py x y
@[simp] def kSorted : KN := k1 fun d Q => withO (seqD d) fun ds => plains ds = true ∧ AllAlike (ds.map D.py) ∧ Sortable (ds.map D.py) ∧ ds.length ≤ sizeLine ∧ (∀ b, b ∈ ds → b.py.depth ≤ 64) ∧ Q (.ow (.lst (ds.mergeSort leD)))
section
variable {F : Fm} {e a b c tg : Expr} {es : List Expr} {pos p : Pos} {x : Str} {id T : String}
theorem each_of {α β : Type} {R : α → β → Prop} : ∀ {as : List α} {bs : List β}, Paired R as bs → EachIs R as bs
  | _, _, .nil => .nil
  | _, _, .cons h t => .cons h (each_of t)
theorem pd_of {α β : Type} {R : α → β → Prop} : ∀ {as : List α} {bs : List β}, EachIs R as bs → Paired R as bs
  | _, _, .nil => .nil
  | _, _, .cons h t => .cons h (pd_of t)
/-- each value is what some x is told by, x standing for d -/
def Via (K : PySem.W.Frag) (Z : Hp) (v : Value) (d : D) : Prop := ∃ x, L2.RelV x v ∧ Rp K Z x d
theorem via_of {K : PySem.W.Frag} {Z : Hp} : ∀ {xs : List V} {ds : List D} {us : List Value}, RpL K Z xs ds → Vals xs us → EachIs (Via K Z) us ds
  | _, _, _, .nil, .nil => .nil
  | _, _, _, .cons h t, .cons r rr => .cons ⟨_, r, h⟩ (via_of t rr)
theorem via_back {K : PySem.W.Frag} {Z : Hp} : ∀ {us : List Value} {ds : List D}, EachIs (Via K Z) us ds → ∃ xs, Vals xs us ∧ RpL K Z xs ds
  | _, _, .nil => ⟨[], .nil, .nil⟩
  | _, _, .cons ⟨x, r, h⟩ t => by
    obtain ⟨xs, rr, hh⟩ := via_back t
    exact ⟨x :: xs, .cons r rr, .cons h hh⟩
theorem mem_merge {ds : List D} {f : D → D → Bool} : (ds.mergeSort f).length = ds.length := List.length_mergeSort ds
def rSortD (K : PySem.W.Frag) : List V → Hp → VK → Prop := fun xs H Q => ∃ (a : Addr) (Z : Hp) (vs : List V) (ds : List D), xs = [.ref a] ∧ (SqL K H a vs ∨ SqT K H a vs) ∧ Le Z H ∧ RpL K Z vs ds ∧ plains ds = true ∧ AllAlike (ds.map D.py) ∧ Sortable (ds.map D.py) ∧ ds.length ≤ sizeLine ∧ (∀ b, b ∈ ds → b.py.depth ≤ 64) ∧
  ∀ (ys : List V) p, H p = none → RpL K Z ys (ds.mergeSort leD) → Q (.ref p) (upd H p (.lst ys))
theorem plains_mem : ∀ {ds : List D}, plains ds = true → ∀ d ∈ ds, d.plain = true
  | d :: ds, h, b, m => by
    have h : d.plain = true ∧ plains ds = true := Bool.and_eq_true_iff.mp h
    rcases List.mem_cons.mp m with rfl | m
    · exact h.1
    · exact plains_mem h.2 b m
theorem cr_sortD {X : Cx} (hu : X.A.units + 80 < cLine) : CallR X (.builtin "sorted") (rSortD X.K) := by
  rintro pins s σ H xs us Q I r ⟨a, Z, vs, ds, rfl, hs, le, rl, pl, hal, hk, hL, hd, q⟩
  rw [Vals.ref1 r]
  have go : ∀ {its : List Value}, Vals vs its → (s.heap.IsList a its.toArray ∨ s.heap.IsTuple a its.toArray) → wpAny (model X.prog X.w) X.A (call (.builtin "sorted") [.ref a]) (EP X pins σ Q) X.xe s := fun {its} rv hl => by
    have e : EachIs (Via X.K Z) its ds := via_of rl rv
    have er : EachIs (fun v (b : D) => ∃ as, Reads s.heap v b.py as) its ds := by
      have : ∀ {us : List Value} {ds : List D}, EachIs (Via X.K Z) us ds → plains ds = true → EachIs (fun v (b : D) => ∃ as, Reads s.heap v b.py as) us ds := by
        intro us ds h
        induction h with
        | nil => intro _; exact .nil
        | cons h t ih =>
          intro pl
          have pl := Bool.and_eq_true_iff.mp pl
          obtain ⟨x, rx, hx⟩ := h
          exact .cons (Dp.reads I _ x _ (dp_of le _ x hx pl.1) rx) (ih pl.2)
      exact this e pl
    refine sorted_both (enc := D.py) hl e er hal hk hL (fun b hb => by have := hd b hb; omega) fun out ho eo => ?_
    obtain ⟨ys, ry, hy⟩ := via_back eo
    obtain ⟨ep, he'⟩ := PyProof.Rows.sortedAll_at s.heap its (List.toArray out)
    have hlen : ys.length ≤ sizeLine := by rw [hy.len, mem_merge]; exact hL
    exact ⟨.ref _, upd H (s.heap.objs.size + 1) (.lst ys), I.laid (t' := s.toks) (fun _ _ => PyProof.Rows.sortedAll_old) (Nat.le_succ _) ⟨hlen, out, ep, ry, he'⟩, rfl, q ys _ (I.hok.fresh (Nat.le_succ _)) hy⟩
  rcases hs with hs | hs
  · obtain ⟨its, rv, pl', hz⟩ := I.list hs
    exact go rv (.inl pl'.isList)
  · obtain ⟨its, rv, pl', hz⟩ := I.tuple hs
    exact go rv (.inr pl')
theorem cd_sorted : CallD F (.builtin "sorted") kSorted := cd1 (r := rSortD F.K) (fun i => by rw [← F.hK i]; exact cr_sortD (F.un i)) fun B σ H ρ Z x d Q Q' S rx hk q => by
  obtain ⟨ds, e, pl, hal, hks, hL, hd, hq⟩ := withO_of hk
  obtain ⟨p, vs, rfl, hs, r⟩ := rd_seq S rx e
  exact ⟨p, Z, vs, ds, rfl, hs, S.sub, r, pl, hal, hks, hL, hd, fun ys l hl hy => q _ _ _ _ (S.alloc1 (o := .lst _) (d := .lst _) hl hy) hq⟩

/-! ### sorted(set(xs)), xs a list of ints -/
theorem nd_le : ∀ {l m : List Int}, l.Nodup → (∀ k ∈ l, k ∈ m) → l.length ≤ m.length
  | [], _, _, _ => Nat.zero_le _
  | x :: l, m, nd, h => by
    have hx := h x (List.mem_cons_self ..)
    have nd := List.nodup_cons.mp nd
    have := nd_le (m := m.erase x) nd.2 fun k hk => by
      have hne : k ≠ x := fun e => nd.1 (e ▸ hk)
      exact (List.mem_erase_of_ne hne).mpr (h k (List.mem_cons_of_mem _ hk))
    rw [List.length_erase_of_mem hx] at this
    have h1 : 0 < m.length := List.length_pos_of_mem hx
    rw [List.length_cons]
    omega
@[simp] def kSortedSet : KN := k1 fun d Q => withO ((lstD d).bind intsOf) fun is => (is.length ≤ 4000 ∧ ∃ m : List Int, m.length < 64 ∧ ∀ k ∈ is, k ∈ m) ∧ ∀ out : List Int, out.Pairwise (· < ·) → (∀ k, k ∈ out ↔ k ∈ is) → Q (.ow (.lst (out.map D.int)))
def rSetL (K : PySem.W.Frag) (w : World) : List V → Hp → VK → Prop := fun xs H Q => ∃ (l : Addr) (ns : List Int), xs = [.ref l] ∧ SqL K H l (ns.map V.int) ∧ (ns.length ≤ 4000 ∧ ∃ m : List Int, m.length < 64 ∧ ∀ k ∈ ns, k ∈ m) ∧ ∀ a n, n < 64 → H a = none → Q (.ref a) (upd H a (SetO w a (fun j => decide (j ∈ ns)) n))
theorem cr_setL {X : Cx} (hc : X.calm = true) : CallR X (.type "set") (rSetL X.K X.w) := by
  rintro pins s σ H xs us Q I r ⟨l, ns, rfl, hs, ⟨h4, m, hm, hsub⟩, q⟩
  rw [Vals.ref1 r]
  obtain ⟨its, rv, pl, hz⟩ := I.list hs
  refine call_set_lstI ns (I.ok.hd hc) pl.isList (by simpa using rv.ints) (by unfold scanBound; omega) fun h' tk c R hc' kp => ?_
  have hn : c < 64 := by
    obtain ⟨o, es, ep, t, _, _, _, _, nd, hmm, _, _, hsz, _⟩ := R
    have := nd_le (m := m) nd fun k hk => hsub k (by simpa using (hmm k).mpr hk)
    rw [List.length_map, Array.length_toList, hsz] at this
    omega
  exact ⟨.ref _, upd H s.heap.objs.size (SetO X.w s.heap.objs.size (fun j => decide (j ∈ ns)) c), I.laid (t' := tk) kp (Nat.le_refl _) (setO_new R), rfl, q _ c hn (I.hok.fresh (Nat.le_refl _))⟩
theorem re_sortedSet {ps pset : Pos} {wa : WRs} (hm1 : ∀ i, (F.X i).mg "sorted" = none) (hm2 : ∀ i, (F.X i).mg "set" = none) (ha : RRs F [e] wa) (hg : ∀ i, Gl (F.X i) "sorted" := by intro _; rfl) (hg2 : ∀ i, Gl (F.X i) "set" := by intro _; rfl)
    (he : ∀ i, starEach [e] (F.X i).env = (false, eval e (F.X i).env) :: starEach [] (F.X i).env := by intro _; rfl) (hpl : ∀ i, (backTo ps (starEach [] (F.X i).env)).any (·.1) = false := by intro _; rfl)
    (he2 : ∀ i, starEach [.Call (.Name "set" pset) [e] [] ps] (F.X i).env = (false, eval (.Call (.Name "set" pset) [e] [] ps) (F.X i).env) :: starEach [] (F.X i).env := by intro _; rfl) (hpl2 : ∀ i, (backTo pos (starEach [] (F.X i).env)).any (·.1) = false := by intro _; rfl) :
    RE F (.Call (.Name "sorted" p) [.Call (.Name "set" pset) [e] [] ps] [] pos) (wB kSortedSet wa) := by
  obtain ⟨t, a1, a2⟩ := ha
  refine ⟨_, fun i => pe_callB (p := p) (pos := pos) (r := rSortedSet F.w) (by rw [← F.hw i]; exact cr_sortedSet (F.calm i)) (hg i) (hm1 i) (by rfl) (pa_cons (pe_callTy (p := pset) (pos := ps) (r := rSetL F.K F.w) (by rw [← F.hw i, ← F.hK i]; exact cr_setL (F.calm i)) (hg2 i) (hm2 i) PyProof.Rows.boot_set (a1 i) (by decide) (by decide) (he i) (hpl i)) pa_nil (he2 i)) (by decide) (by decide) (he2 i) (hpl2 i),
    LE.of fun B σ H ρ Z Q Q' E S X hw q => a2 B σ H ρ Z _ _ E S X hw fun xs rs H1 ρ1 Z1 S1 le1 o1 hw => ?_⟩
  obtain ⟨ds, e1, hk⟩ := withN_of hw
  obtain ⟨d, rfl, hk⟩ := k1_of hk
  obtain ⟨x, rfl, rx⟩ := pd1 (S1.reads o1 e1)
  obtain ⟨is, e2, hz, hq⟩ := withO_of hk
  obtain ⟨l, rfl, hs⟩ := rd_ints S1 rx e2
  refine ⟨l, is, rfl, hs, hz, fun a n hn ha => ?_⟩
  obtain ⟨S2, le2⟩ := S1.allocZ (o := SetO F.w a (fun j => decide (j ∈ is)) n) ha
  refine ⟨a, _, n, rfl, upd_same, hn, fun ns p hp hmem hlen hfree => ?_⟩
  exact q _ _ _ _ _ (S2.alloc1 (o := .lst _) (d := .lst _) hfree (RpL.ints ns)) (hq ns hp fun k => (hmem k).trans (by simp))
end
end Pu

set_option Elab.async false
set_option linter.all false
set_option maxRecDepth 100000
/-! Pu, repr, isinstance, index on a told tuple, lists of own lists. -/
namespace Pu
open PySem L2 PySem.Spec PyProof.Rows PySem.W

mutual
theorem noDict_of : ∀ d : PyData, d.canLay0 = true → d.hasDict = false
  | .none, _ => rfl
  | .bool _, _ => rfl
  | .int _, _ => rfl
  | .str _, _ => rfl
  | .list xs, h => noDicts_of xs h
  | .tuple xs, h => noDicts_of xs h
  | .dict _, h => by cases h
theorem noDicts_of : ∀ ds : List PyData, PyData.canLayAll0 ds = true → PyData.hasDictAll ds = false
  | [], _ => rfl
  | d :: ds, h => by
    have h : d.canLay0 = true ∧ PyData.canLayAll0 ds = true := Bool.and_eq_true_iff.mp h
    show (d.hasDict || PyData.hasDictAll ds) = false
    rw [noDict_of d h.1, noDicts_of ds h.2]
    rfl
end
section
variable {F : Fm} {e a b c tg : Expr} {es : List Expr} {pos p : Pos} {x : Str} {id T : String}
def rReprD (K : PySem.W.Frag) : List V → Hp → VK → Prop := fun xs H Q => ∃ (x : V) (d : PyData), xs = [x] ∧ Dp K H x d ∧ d.canLay0 = true ∧ d.showable = true ∧ d.shown.length ≤ sizeLine ∧ d.depth ≤ 64 ∧ Q (.str d.shown) H
theorem cr_repr {X : Cx} (hg : X.A.guards = some []) (hu : X.A.units + 80 < cLine) : CallR X (.builtin "repr") (rReprD X.K) := by
  rintro pins s σ H xs us Q I r ⟨x, d, rfl, hd, hl, hs, hz, hdp, q⟩
  obtain ⟨u, rfl, rx⟩ := vals1 r
  obtain ⟨as, rd⟩ := Dp.reads I d x u hd rx
  have fin : ∀ h' t tk, (∀ b o, s.heap.get? b = some o → h'.get? b = some o) → EP X pins σ Q (.str d.shown t) { s with heap := h', toks := tk } := fun h' t tk k =>
    ⟨.str _, H, I.kept (t' := tk) k, ⟨_, rfl⟩, q⟩
  have fin0 : ∀ t tk, EP X pins σ Q (.str d.shown t) { s with toks := tk } := fun t tk => fin s.heap t tk fun _ _ e => e
  cases rd with
  | none => exact P.repr_of_none (fin0 _ _)
  | bool b => exact P.repr_of_bool (fin0 _ _)
  | int i t => exact P.repr_of_int (by simpa [PyData.showable] using hs) (fin0 _ _)
  | str x t => exact P.repr_of_str (fin0 _ _) hz
  | list h1 h2 h3 h4 => exact repr_of_reads' (.list h1 h2 h3 h4) hs (fun z => by rw [noDict_of _ hl] at z; cases z) hg (by omega) (fun _ _ e => e) (fun h' t tk k => fin h' t tk k) hz
  | tuple h1 h2 h3 h4 => exact repr_of_reads' (.tuple h1 h2 h3 h4) hs (fun z => by rw [noDict_of _ hl] at z; cases z) hg (by omega) (fun _ _ e => e) (fun h' t tk k => fin h' t tk k) hz
  | dict _ _ _ _ _ => cases hl
@[simp] def kRepr : KN := k1 fun d Q => (d.plain = true ∧ d.py.showable = true ∧ d.py.shown.length ≤ sizeLine ∧ d.py.depth ≤ 64) ∧ Q (.fz (.str d.py.shown))
theorem cd_repr : CallD F (.builtin "repr") kRepr := cd1 (r := rReprD F.K) (fun i => by rw [← F.hK i]; exact cr_repr (F.gd i) (F.un i)) fun B σ H ρ Z x d Q Q' S rx hk q => by
  obtain ⟨⟨h1, h2, h3, h4⟩, hq⟩ := hk
  exact ⟨x, d.py, rfl, dp_rd S rx h1, lay_of d h1, h2, h3, h4, q _ _ _ _ (S.have (.str _)) hq⟩

/-! ### isinstance -/
@[simp] def tyN : D → Option String
  | .non => some "NoneType"
  | .bl _ => some "bool"
  | .int _ => some "int"
  | .str _ => some "str"
  | .lst _ => some "list"
  | .tup _ => some "tuple"
  | .dic _ _ => some "dict"
  | _ => none
theorem kit_rd {X : Cx} {B : Bs} {σ : L2.St} {H : Hp} {ρ : En} {Z : Hp} {v : V} {d : D} {n : String} {pins : List (Addr × Obj)} {s : Shared} {u : Value} {t : L2.St} (I : Inv X pins t H s) (hx : Rp X.K H v d) (rx : L2.RelV v u) (e : tyN d = some n) :
    ∃ P : Heap → Prop, PySem.W.KitX X.K u (.type n) P ∧ P s.heap ∧ u ≠ .builtin "__main__.__loader__#opaque" := by
  cases d with
  | non => cases e; cases hx; exact kit_of I rx (.base .non)
  | bl _ => cases e; cases hx; exact kit_of I rx (.base (.bl _))
  | int _ => cases e; cases hx; exact kit_of I rx (.base (.int _))
  | str _ => cases e; cases hx; exact kit_of I rx (.base (.str _))
  | lst _ => cases e; cases hx with | lst h1 h2 => exact kit_of I rx (.base (.lst h1))
  | dic _ _ => cases e; cases hx with | dic h1 h2 h3 => exact kit_of I rx (.base (.dK h1))
  | tup _ =>
    cases e
    cases hx with
    | tup h1 h2 =>
      rcases h1 with h1 | ⟨o, h1⟩
      · exact kit_of I rx (.base (.tup h1))
      · rename_i a vs
        cases (show u = Value.ref a from rx)
        obtain ⟨_, _, _, _, o', h1, h2, _⟩ := (show ObjOk X.prog X.w H s.heap a (.frz o (.tup vs)) from I.hok a _ h1)
        exact ⟨_, PySem.W.kitx_tuple, ⟨o', h1, h2⟩, fun z => nomatch z⟩
  | _ => cases e
/-- isinstance(x, T), T a type -/
def rIsTyD (T : String) : TE → TE := fun te σ H Q => te σ H fun x H1 => ∃ (K : PySem.W.Frag) (d : D) (n : String) (b : Bool), Rp K H1 x d ∧ tyN d = some n ∧ kitB n T = some b ∧ Q (.bl b) H1
@[simp] def wIsTy (T : String) (w : WR) : WE := fun E ρ Q => w E ρ fun r ρ1 => with1 (look ρ1 r) fun d => withO (tyN d) fun n => withO (kitB n T) fun b => Q (.fz (.bl b)) ρ1
def rIsTyK (K : PySem.W.Frag) (T : String) : List V → Hp → VK → Prop := fun xs H Q => ∃ (x : V) (d : D) (n : String) (b : Bool), xs = [x, .ty T] ∧ Rp K H x d ∧ tyN d = some n ∧ kitB n T = some b ∧ Q (.bl b) H
theorem cr_isTyK {X : Cx} {T : String} : CallR X (.builtin "isinstance") (rIsTyK X.K T) := by
  rintro pins s σ H xs us Q I r ⟨x, d, n, b, rfl, hx, hn, hb, q⟩
  obtain ⟨u1, u2, rfl, r1, r2⟩ := vals2 r
  cases (show u2 = Value.type T from r2)
  obtain ⟨P, Z, p, hne⟩ := kit_rd (B := ⟨fun _ => none, fun _ => none, fun _ => none, fun _ => 0⟩) (σ := σ) (ρ := []) (Z := H) I hx r1 hn
  exact PySem.W.kia_one Z I.kIn p (kit_ty hb) hne fun tk => ⟨.bl b, H, I.tok tk, rfl, q⟩
theorem re_isTy {pt : Pos} {w : WR} {y : Str} (T : String) (ha : RR F e w) (hm : ∀ i, (F.X i).mg "isinstance" = none) (hm2 : ∀ i, (F.X i).mg y = none) (hy : bootBuiltins y = some (.type T) := by rfl) (hg : ∀ i, Gl (F.X i) "isinstance" := by intro _; rfl) (hg2 : ∀ i, Gl (F.X i) y := by intro _; rfl) (hn : y ≠ "__name__" := by decide) (hdb : (y == ("__debug__" : Str)) = false := by decide)
    (he : ∀ i, starEach [e, .Name y pt] (F.X i).env = (false, eval e (F.X i).env) :: starEach [.Name y pt] (F.X i).env := by intro _; rfl) (he2 : ∀ i, starEach [.Name y pt] (F.X i).env = (false, eval (.Name y pt) (F.X i).env) :: starEach [] (F.X i).env := by intro _; rfl) (hpl : ∀ i, (backTo pos (starEach [.Name y pt] (F.X i).env)).any (·.1) = false := by intro _; rfl) :
    RE F (.Call (.Name "isinstance" p) [e, .Name y pt] [] pos) (wIsTy T w) := by
  obtain ⟨t, a1, a2⟩ := ha
  refine ⟨_, fun i => pe_callB (r := rIsTyK F.K T) (by rw [← F.hK i]; exact cr_isTyK) (hg i) (hm i) (by rfl) (pa_cons (a1 i) (pa_cons (pe_bltn (v := V.ty T) (hg2 i) (hm2 i) hy rfl hn hdb) pa_nil (he2 i)) (he i)) (by decide) (by decide) (he i) (hpl i), fun B σ H ρ Z Q Q' E S X hw q => a2 B σ H ρ Z _ _ E S X hw fun v r H1 ρ1 Z1 S1 le1 o1 hw => ?_⟩
  obtain ⟨d, e1, hw⟩ := with1_of hw
  obtain ⟨n, e2, hw⟩ := withO_of hw
  obtain ⟨b, e3, hq⟩ := withO_of hw
  exact ⟨v, d, n, b, rfl, rd1_le S1 (S1.read o1 e1), e2, e3, q _ _ _ _ _ (S1.have (.bl b)) le1 hq⟩
/-- isinstance(x, C), x an instance of C -/
structure InsOf (K : PySem.W.Frag) (C : Addr) : Prop where
  cl : Cls K C
  ha : PySem.W.findIn K (.ref C) "__class__" = some (some (.builtin "object.__class__"))
  hn : PySem.W.specialIn K (.builtin "object.__class__") "__get__" = some (some (.builtin "getset_descriptor.__get__"))
  tk : PySem.W.takesIn K (.builtin "object.__class__") = some true
  hm : PySem.W.mroIn K C (.type "object") = some true
@[simp] def wIsC (C : Nat) (w : WR) : WE := fun E ρ Q => w E ρ fun r ρ1 => with1 (look ρ1 r) fun d => match d with
  | .ins C' _ _ => C' = C ∧ Q (.fz (.bl true)) ρ1
  | _ => False
theorem kit_self {K : PySem.W.Frag} {C : Addr} : PySem.W.kitOne K (.ref C) (.ref C) = some true := by
  unfold PySem.W.kitOne
  rw [if_pos (by simp)]
theorem re_isC {pt : Pos} {w : WR} {y : Str} (C : Addr) (hC : InsOf F.K C) (ha : RR F e w) (hm : ∀ i, (F.X i).mg "isinstance" = none) (hm2 : ∀ i, (F.X i).mg y = some (.ref C)) (hg : ∀ i, Gl (F.X i) "isinstance" := by intro _; rfl) (hg2 : ∀ i, Gl (F.X i) y := by intro _; rfl) (hdb : (y == ("__debug__" : Str)) = false := by decide)
    (he : ∀ i, starEach [e, .Name y pt] (F.X i).env = (false, eval e (F.X i).env) :: starEach [.Name y pt] (F.X i).env := by intro _; rfl) (he2 : ∀ i, starEach [.Name y pt] (F.X i).env = (false, eval (.Name y pt) (F.X i).env) :: starEach [] (F.X i).env := by intro _; rfl) (hpl : ∀ i, (backTo pos (starEach [.Name y pt] (F.X i).env)).any (·.1) = false := by intro _; rfl) :
    RE F (.Call (.Name "isinstance" p) [e, .Name y pt] [] pos) (wIsC C w) := by
  obtain ⟨t, a1, a2⟩ := ha
  refine ⟨_, fun i => pe_callB (r := rIsi F.K) (by rw [← F.hK i]; exact call_isi) (hg i) (hm i) (by rfl) (pa_cons (a1 i) (pa_cons (pe_glob (v := V.ref C) (hg2 i) (hm2 i) rfl hdb) pa_nil (he2 i)) (he i)) (by decide) (by decide) (he i) (hpl i), fun B σ H ρ Z Q Q' E S X hw q => a2 B σ H ρ Z _ _ E S X hw fun v r H1 ρ1 Z1 S1 le1 o1 hw => ?_⟩
  obtain ⟨d, e1, hw⟩ := with1_of hw
  cases d with
  | ins C' fs xs =>
    obtain ⟨rfl, hq⟩ := (show _ ∧ _ from hw)
    obtain ⟨a, dx, kvs, rfl, hz, hh, _, _⟩ := rd_ins S1 (S1.read o1 e1)
    exact ⟨.ref a, .ref C', .ref C', .ref C', true, rfl, .own C', .base (.ins hh hC.cl hC.ha hC.hn hC.tk hC.hm), kit_self, q _ _ _ _ _ (S1.have (.bl true)) le1 hq⟩
  | _ => exact (show False from hw).elim

/-! ### t.index(x), t a told tuple of texts -/
def firstS (z : Str) : Nat → List Str → Option Nat
  | _, [] => none
  | k, y :: ys => if y = z then some k else firstS z (k + 1) ys
theorem firstS_of {z : Str} : ∀ {ys : List Str} {k j : Nat}, firstS z k ys = some j → ∃ i, j = k + i ∧ ys[i]? = some z ∧ ∀ m, m < i → ys[m]? ≠ some z
  | [], _, _, h => by cases h
  | y :: ys, k, j, h => by
    unfold firstS at h
    by_cases e : y = z
    · rw [if_pos e] at h
      cases h
      exact ⟨0, rfl, by rw [e]; rfl, fun m hm => absurd hm (Nat.not_lt_zero m)⟩
    · rw [if_neg e] at h
      obtain ⟨i, rfl, h1, h2⟩ := firstS_of h
      refine ⟨i + 1, by omega, h1, fun m hm q => ?_⟩
      cases m with
      | zero =>
        have q : some y = some z := q
        cases q
        exact e rfl
      | succ m => exact h2 m (by omega) q
def TldV (x : V) (H : Hp) : Prop := ∃ a o vs, x = .ref a ∧ H a = some (.frz o (.tup vs)) ∧ o.dict = none
def rTIx (K : PySem.W.Frag) : V → List V → Hp → VK → Prop := fun x xs H Q => ∃ p, ∃ ys : List Str, ∃ z j, x = .ref p ∧ xs = [.str z] ∧ SqT K H p (ys.map V.str) ∧ ys[j]? = some z ∧ (∀ m, m < j → ys[m]? ≠ some z) ∧ Q (.int (j : Nat)) H
def tTIx (K : PySem.W.Frag) (to : TE) (t : TA) : TE := fun σ H Q => to σ H fun x H1 => TldV x H1 ∧ t σ H1 fun xs H2 => rTIx K x xs H2 Q
theorem pe_tix {X : Cx} {o : Expr} {to : TE} {t : TA} {apos cpos : Pos} (ho : PE X o to) (ha : PA X [e] t)
    (hbase : attributeBase o "index" X.env (eval o X.env) = eval o X.env)
    (hfew : ((backTo cpos (starEach [e] X.env)).all (fun x => !x.1) && (backToKw cpos (keywordEach [] X.env)).all (fun x => x.1.isSome)
      && decide ([e].length + ([] : List Keyword).length + (if ([] : List Keyword).isEmpty then 0 else 1) < 30)) = true)
    (hline : (apos.endLine == cpos.line) = true) (hs : starEach [e] X.env = (false, eval e X.env) :: starEach [] X.env) (hplain : (backTo cpos (starEach [] X.env)).any (·.1) = false) :
    PE X (.Call (.Attribute o "index" apos) [e] [] cpos) (tTIx X.K to t) := by
  refine ⟨fun pins s σ H Q I h => ?_⟩
  refine wpAny_Call_method_late hbase hfew hline rfl (thn (ho.run pins s σ H _ I h) fun v s1 ⟨x, H1, I1, r1, ty, q1⟩ => ?_)
  obtain ⟨a, ob, vs, rfl, hf, hdn⟩ := ty
  cases r1
  obtain ⟨hob, _, its, _, p⟩ := (show ObjOk X.prog X.w H1 s1.heap a (.frz ob (.tup vs)) from I1.hok a _ hf)
  obtain ⟨ob2, g1, g2, _⟩ := id p
  refine ⟨"tuple", "tuple.index", PySem.F.plainAttrs_tuple, PySem.F.slot_tuple_index, PySem.F.type_tuple_index, ⟨ob2, g1, g2⟩, (fun b hb => by cases hb; exact ⟨ob, hob, hdn⟩), ?_⟩
  have hA := ha.run cpos pins s1 σ H1 _ I1 q1
  rw [hs] at hA ⊢
  refine Calls.callWith_builtin (by show (false || (backTo cpos (starEach [] X.env)).any (·.1)) = false; rw [hplain] <;> rfl) (Calls.evalArgs_plain ?_)
  exact thn hA fun us s2 ⟨vs2, H2, I2, r2, q2⟩ => mt_tup_index pins s2 σ H2 (.ref a) vs2 _ us Q I2 rfl r2 q2
@[simp] def kTIx (x : D) : KN := k1 fun y Q => match x with
  | .ttp ds => (match y with
    | .str z => withO (strsOf ds) fun ys => withO (firstS z 0 ys) fun j => Q (.fz (.int (j : Nat)))
    | _ => False)
  | _ => False
@[simp] def tldD : D → Prop
  | .ttp _ => True
  | _ => False
@[simp] def wTIx (o : WE) (as : WRs) : WE := fun E ρ Q => o E ρ fun s ρ1 => match s with
  | .fz d => tldD d ∧ as E ρ1 fun rs ρ2 => withN (looks ρ2 rs) fun ds => kTIx d ds fun s => Q s ρ2
  | _ => False
theorem re_tix {wo : WE} {wa : WRs} {apos cpos : Pos} {o : Expr} (ho : RE F o wo) (ha : RRs F [e] wa)
    (hbase : ∀ i, attributeBase o "index" (F.X i).env (eval o (F.X i).env) = eval o (F.X i).env := by intro _; rfl)
    (hfew : ∀ i, ((backTo cpos (starEach [e] (F.X i).env)).all (fun x => !x.1) && (backToKw cpos (keywordEach [] (F.X i).env)).all (fun x => x.1.isSome)
      && decide ([e].length + ([] : List Keyword).length + (if ([] : List Keyword).isEmpty then 0 else 1) < 30)) = true := by intro _; rfl)
    (hline : (apos.endLine == cpos.line) = true := by rfl) (hs : ∀ i, starEach [e] (F.X i).env = (false, eval e (F.X i).env) :: starEach [] (F.X i).env := by intro _; rfl) (hplain : ∀ i, (backTo cpos (starEach [] (F.X i).env)).any (·.1) = false := by intro _; rfl) :
    RE F (.Call (.Attribute o "index" apos) [e] [] cpos) (wTIx wo wa) := by
  obtain ⟨to, o1, o2⟩ := ho
  obtain ⟨t, a1, a2⟩ := ha
  refine ⟨tTIx F.K to t, fun i => by rw [← F.hK i]; exact pe_tix (o1 i) (a1 i) (hbase i) (hfew i) hline (hs i) (hplain i), LE.of fun B σ H ρ Z Q Q' E S X hw q => o2 B σ H ρ Z _ _ E S X hw fun x s H1 ρ1 Z1 S1 le1 hw => ?_⟩
  cases s with
  | fz d =>
    obtain ⟨td, hw⟩ := (show _ ∧ _ from hw)
    obtain ⟨Z2, le2, S2, rx⟩ := S1.thaw1 (.inl rfl)
    cases d with
    | ttp ds =>
      cases rx with
      | @ttp pa ob vs0 _ hz hdn rl =>
        refine ⟨⟨_, _, _, rfl, S2.sub _ _ hz, hdn⟩, a2 B σ H1 ρ1 Z2 _ _ E S2 X hw fun xs rs H3 ρ3 Z3 S3 le3 ok3 hw => ?_⟩
        obtain ⟨es, e2, hk⟩ := withN_of hw
        obtain ⟨y, rfl, hk⟩ := k1_of hk
        obtain ⟨v, rfl, rv⟩ := pd1 (S3.reads ok3 e2)
        cases y with
        | str z =>
          obtain ⟨ys, e3, hk⟩ := withO_of hk
          obtain ⟨j, e4, hq⟩ := withO_of hk
          obtain ⟨i, e5, h1, h2⟩ := firstS_of e4
          rw [Nat.zero_add] at e5
          subst e5
          have rl := RpL.le le3 _ _ rl
          rw [strsOf_eq e3] at rl
          refine ⟨_, ys, z, j, rfl, by rw [rd_str rv], (.inl (.inr ⟨ob, ?_⟩)), h1, h2, q _ _ _ _ _ (S3.have (.int _)) hq⟩
          rw [← RpL.of_strs rl]
          exact S3.sub _ _ (le3 _ _ hz)
        | _ => exact (show False from hk).elim
    | _ => exact (show False from td).elim
  | _ => exact (show False from hw).elim

/-! ### e.f, a property that gives an attribute -/
@[simp] def fldD : List Str → List D → Str → Option D
  | n :: ns, x :: xs, f => if f = n then some x else fldD ns xs f
  | _, _, _ => none
theorem fld_look {K : PySem.W.Frag} {Z : Hp} {f : Str} : ∀ {kvs : List (Str × V)} {ds : List D} {d : D}, RpL K Z (kvs.map (·.2)) ds → fldD (kvs.map (·.1)) ds f = some d → ∃ v, kvs.lookup f = some v ∧ Rp K Z v d
  | [], _, _, _, h => by cases h
  | (n, v) :: kvs, ds, d, r, h => by
    cases r with
    | cons r1 r2 =>
      have h : (if f = n then some _ else fldD (kvs.map (·.1)) _ f) = some d := h
      by_cases e : f = n
      · rw [if_pos e] at h
        cases h
        exact ⟨v, by rw [List.lookup_cons, e]; simp, r1⟩
      · rw [if_neg e] at h
        obtain ⟨u, h1, h2⟩ := fld_look r2 h
        exact ⟨u, by rw [List.lookup_cons, show (f == n) = false from by simpa using e]; exact h1, h2⟩
/-- as it is told, or as any tuple -/
@[simp] def wProp (C : Nat) (own : Str) (w : WR) : WE := fun E ρ Q => w E ρ fun r ρ1 => with1 (look ρ1 r) fun d => withO (insOf d) fun p => p.1 = C ∧ withO (fldD p.2.1 p.2.2 own) fun v => Q (.fz v) ρ1
@[simp] def asTup : D → D
  | .ttp xs => .tup xs
  | d => d
theorem asTup_rp {K : PySem.W.Frag} {Z : Hp} {v : V} {d : D} (r : Rp K Z v d) : Rp K Z v (asTup d) := by
  cases d with
  | ttp xs => cases r with | ttp h1 _ h2 => exact .tup (.inr ⟨_, h1⟩) h2
  | _ => exact r
@[simp] def wPropT (C : Nat) (own : Str) (w : WR) : WE := fun E ρ Q => w E ρ fun r ρ1 => with1 (look ρ1 r) fun d => withO (insOf d) fun p => p.1 = C ∧ withO (fldD p.2.1 p.2.2 own) fun v => Q (.fz (asTup v)) ρ1
section
variable {C pa g : Addr} {f own : Str} {fd : FuncData} {k : Nat} {w : WR}
theorem re_prop (cl : Cls F.K C) (hp : PropOf F.K C f pa g) (G : ∀ i, FnOk (F.X i).prog (F.X i).w (F.X i).K (F.X i).mg (F.X i).base CX0 k g fd ["self"] (getSp C own)) (hr : ∀ i, Room (k + 1) (F.X i).A) (hb : Binds F.K fd ["self"] []) (ha : RR F e w) (hab : ∀ i, attributeBase e f (F.X i).env (eval e (F.X i).env) = eval e (F.X i).env := by intro _; rfl) : RE F (.Attribute e f pos) (wProp C own w) := by
  obtain ⟨t, a1, a2⟩ := ha
  refine ⟨tProp C (getSp C own) [] E0 t, fun i => pe_prop (a1 i) (by rw [F.hK i]; exact cl) (by rw [F.hK i]; exact hp) (G i) (hr i) (by rw [F.hK i]; exact hb) .nil pass0 (hab i), LE.of fun B σ H ρ Z Q Q' E S X hw q => a2 B σ H ρ Z _ _ E S X hw fun x r H1 ρ1 Z1 S1 le1 o1 hw => ?_⟩
  obtain ⟨d, e1, hw⟩ := with1_of hw
  obtain ⟨⟨C', fs, xs⟩, e3, hC, hw2⟩ := withO_of hw
  have hC : C' = C := hC
  subst hC
  obtain ⟨dv, e2, hq⟩ := withO_of hw2
  obtain ⟨a, dx, kvs, rfl, hz, hh, en, rl⟩ := rd_insOf S1 (S1.read o1 e1) e3
  obtain ⟨v, h1, rv⟩ := fld_look rl (by rw [en]; exact e2)
  exact ⟨a, dx, kvs, rfl, hh, a, dx, kvs, v, rfl, hh, h1, q _ _ _ _ _ (S1.have rv) hq⟩
theorem re_propT (cl : Cls F.K C) (hp : PropOf F.K C f pa g) (G : ∀ i, FnOk (F.X i).prog (F.X i).w (F.X i).K (F.X i).mg (F.X i).base CX0 k g fd ["self"] (getSp C own)) (hr : ∀ i, Room (k + 1) (F.X i).A) (hb : Binds F.K fd ["self"] []) (ha : RR F e w) (hab : ∀ i, attributeBase e f (F.X i).env (eval e (F.X i).env) = eval e (F.X i).env := by intro _; rfl) : RE F (.Attribute e f pos) (wPropT C own w) := by
  obtain ⟨t, a1, a2⟩ := ha
  refine ⟨tProp C (getSp C own) [] E0 t, fun i => pe_prop (a1 i) (by rw [F.hK i]; exact cl) (by rw [F.hK i]; exact hp) (G i) (hr i) (by rw [F.hK i]; exact hb) .nil pass0 (hab i), LE.of fun B σ H ρ Z Q Q' E S X hw q => a2 B σ H ρ Z _ _ E S X hw fun x r H1 ρ1 Z1 S1 le1 o1 hw => ?_⟩
  obtain ⟨d, e1, hw⟩ := with1_of hw
  obtain ⟨⟨C', fs, xs⟩, e3, hC, hw2⟩ := withO_of hw
  have hC : C' = C := hC
  subst hC
  obtain ⟨dv, e2, hq⟩ := withO_of hw2
  obtain ⟨a, dx, kvs, rfl, hz, hh, en, rl⟩ := rd_insOf S1 (S1.read o1 e1) e3
  obtain ⟨v, h1, rv⟩ := fld_look rl (by rw [en]; exact e2)
  exact ⟨a, dx, kvs, rfl, hh, a, dx, kvs, v, rfl, hh, h1, q _ _ _ _ _ (S1.have (asTup_rp rv)) hq⟩
end

/-! ### tuple(xs), told: at the level of HandS -/
theorem call_told {X : Cx} : CallR X (.type "tuple") (fun xs H Q => ∃ p ys, xs = [V.ref p] ∧ SqL X.K H p ys ∧ ∀ l o, H l = none → o.dict = none → Q (.ref l) (upd H l (.frz o (.tup ys)))) := by
  rintro pins s σ H xs us Q I r ⟨p, ys, rfl, hq, q⟩
  rw [Vals.ref1 r]
  obtain ⟨its, r', pl, hz⟩ := I.list hq
  have hlen := r'.length
  refine call_tuple_list pl.isList (fun h' kp => ?_) (by simp only [List.size_toArray] <;> omega)
  have I1 : Inv X pins σ H { s with heap := h' } := I.kept (t' := s.toks) kp
  have I2 : Inv X pins σ (upd H h'.objs.size (.frz { cls := .type "tuple", data := .seq its.toArray } (.tup ys))) { s with heap := h'.push { cls := .type "tuple", data := .seq its.toArray } } :=
    I1.laid (t' := s.toks) (fun b o e => Heap.get?_push_of_some _ e) (Nat.le_refl _) (show ObjOk X.prog X.w _ _ _ (.frz _ (.tup ys)) from ⟨Heap.get?_push_size _ rfl, hz, its, r', IsTup.new _ _⟩)
  exact ⟨.ref h'.objs.size, _, I2, rfl, q _ _ (I1.hok.fresh (Nat.le_refl _)) rfl⟩
end
end Pu

set_option Elab.async false
set_option linter.all false
set_option maxRecDepth 100000
/-! Pu, dict(zip(xs, ys)). -/
namespace Pu
open PySem L2 PySem.Spec PyProof.Rows

def rDictZip (K : PySem.W.Frag) : List V → Hp → VK → Prop := fun vs H Q => ∃ (a b : Addr) (ks : List Key) (ys : List V), vs = [V.ref a, V.ref b] ∧ SqL K H a (ks.map kV) ∧ SqL K H b ys ∧ ∀ p, H p = none → Q (.ref p) (upd H p (.dK (mergeK [] (ks.zip ys))))
theorem key_is {P : Program} {w : World} {k : Key} {u : Value} (r : L2.RelV (kV k) u) : (mixKind P w).is k u = true := by
  cases k with
  | inl i => obtain ⟨t, rfl⟩ := r; simp [mixKind, keyIs, Value.isInt]
  | inr x => obtain ⟨t, rfl⟩ := r; simp [mixKind, keyIs, Value.isStrOf]
theorem zip_kv : ∀ {ks : List Key} {ys : List V} {us : List Value}, Vals ys us → KV (ks.zip ys) (ks.zip us)
  | [], _, _, _ => by rw [List.zip_nil_left, List.zip_nil_left]; exact .nil
  | _ :: _, _, _, .nil => by rw [List.zip_nil_right, List.zip_nil_right]; exact .nil
  | k :: ks, _, _, .cons r t => .cons ⟨rfl, r⟩ (zip_kv t)
theorem pe_dictZip {X : Cx} {e e2 : Expr} {t : TA} {p p2 q pos : Pos} (hc : X.calm = true) (hg : Gl X "dict") (hm : X.mg "dict" = none) (hg2 : Gl X "zip") (hm2 : X.mg "zip" = none) (ha : PA X [e, e2] t)
    (hs : starEach [e, e2] X.env = (false, eval e X.env) :: starEach [e2] X.env) (hpl : (backTo q (starEach [e2] X.env)).any (·.1) = false)
    (hs0 : starEach [.Call (.Name "zip" p2) [e, e2] [] q] X.env = (false, eval (.Call (.Name "zip" p2) [e, e2] [] q) X.env) :: starEach [] X.env) :
    PE X (.Call (.Name "dict" p) [.Call (.Name "zip" p2) [e, e2] [] q] [] pos) (tCB (rDictZip X.K) t) := by
  refine ⟨fun pins s σ H Q I h => ?_⟩
  refine Call_ (ld_blt I hg hm PyProof.Rows.boot_dict ?_)
  refine PyProof.Rows.callWith_type1 (PyProof.Rows.args_cons ?_ hs0) hs0 rfl
  refine Call_ (ld_blt I hg2 hm2 PyProof.Rows.boot_zip ?_)
  refine PyProof.Rows.callWith_type1 (thn (ha.run q pins s σ H _ I h) fun us s1 ⟨vs, H1, I1, r1, q1⟩ => ?_) hs hpl
  obtain ⟨a, b, ks, ys, rfl, hqx, hqy, qq⟩ := q1
  obtain ⟨u1, u2, rfl, r1, r2⟩ := vals2 r1
  cases r1
  cases r2
  obtain ⟨its, rv, pl1, hz1⟩ := I1.list hqx
  obtain ⟨its2, rv2, pl2, hz2⟩ := I1.list hqy
  have la : a < s1.heap.objs.size := pl1.lt
  have lb : b < s1.heap.objs.size := pl2.lt
  refine call_zip_2 pl1.isList pl2.isList fun h' hz hTI hTO h1 h2 hsz hk => PyProof.Rows.args_nil ?_
  have l1 : ks.length = its.length := by rw [← rv.length, List.length_map]
  have rel : KV (ks.zip ys) (ks.zip its2) := zip_kv rv2
  have lz : (ks.zip its2).length = min its.toArray.size its2.toArray.size := by rw [List.length_zip, List.size_toArray, List.size_toArray, l1]
  have hz' : ys.length = its2.length := rv2.length
  refine PySem.call_dict_pairs (knd := mixKind X.prog X.w) (kvs := ks.zip its2) (s := { s1 with heap := h' }) (PairArg.zip (s1.heap.objs.size + 4) (s1.heap.objs.size + 2) (s1.heap.objs.size + 3) s1.heap.objs.size (s1.heap.objs.size + 1) a b (PySem.W.ktu_apart s1.heap.objs.size a b la lb) its.toArray its2.toArray) (I1.ok.hd hc)
    ⟨hz, hTI, ⟨_, _, hTO⟩, h1, h2, pl1.isList.at fun o e => hk _ o e, pl2.isList.at fun o e => hk _ o e⟩ ⟨lz, fun i key v hr => ?_⟩ (by have := l1; have h3 : (ks.map kV).length = ks.length := List.length_map _; simp only [List.size_toArray]; omega) fun h2' tk hd hkeep => ?_
  · obtain ⟨e1, e2⟩ := hr
    have e1 : its[i]? = some key := by simpa using e1
    have e2 : its2[i]? = some v := by simpa using e2
    obtain ⟨x, ex, rx⟩ : ∃ x, (ks.map kV)[i]? = some x ∧ L2.RelV x key := pd_get rv e1
    rw [List.getElem?_map] at ex
    cases ek : ks[i]? with
    | none => rw [ek] at ex; cases ex
    | some k =>
      rw [ek] at ex
      cases ex
      exact ⟨k, by rw [List.getElem?_zip_eq_some]; exact ⟨ek, e2⟩, key_is rx⟩
  · have big : s1.heap.objs.size ≤ h'.objs.size := by rw [hsz]; exact Nat.le_add_right _ _
    have kp : ∀ c o, s1.heap.get? c = some o → h2'.get? c = some o := fun c o hco => by
      have lt := Heap.lt_size hco
      refine hkeep c o (fun hm => ?_) (hk c o hco)
      have e' : c = s1.heap.objs.size + 4 ∨ c = s1.heap.objs.size + 3 ∨ c = s1.heap.objs.size ∨ c = s1.heap.objs.size + 1 := by simpa using hm
      have lt : (c : Nat) < s1.heap.objs.size := lt
      rcases e' with e | e | e | e
      · exact absurd lt (by rw [e]; exact Nat.not_lt.mpr (Nat.le_add_right _ _))
      · exact absurd lt (by rw [e]; exact Nat.not_lt.mpr (Nat.le_add_right _ _))
      · exact absurd lt (by rw [e]; exact Nat.lt_irrefl _)
      · exact absurd lt (by rw [e]; exact Nat.not_lt.mpr (Nat.le_add_right _ _))
    have hmm : (h'.objs.size == sysModules) = false := beq_eq_false_iff_ne.mpr (Nat.ne_of_gt (Nat.lt_of_lt_of_le I1.big big))
    have hlen : (mergeK [] (ks.zip ys)).length ≤ sizeLine := by
      refine Nat.le_trans (length_mergeK _ []) ?_
      rw [List.length_nil, Nat.zero_add, List.length_zip]
      have h3 : (ks.map kV).length = ks.length := List.length_map _
      omega
    exact ⟨.ref h'.objs.size, upd H1 h'.objs.size (.dK (mergeK [] (ks.zip ys))), I1.laid (t' := tk) kp big (show ObjOk X.prog X.w _ _ _ (.dK (mergeK [] (ks.zip ys))) from ⟨hlen, hmm, merged [] (ks.zip its2), KV.merge rel .nil, hd⟩), rfl, qq _ (I1.hok.fresh big)⟩
section
variable {F : Fm} {e a b : Expr} {pos p : Pos}
def keysOf : List D → Option (List Ky)
  | [] => some []
  | d :: r => match keyD d with
    | none => none
    | some k => match keysOf r with
      | some ks => some (k :: ks)
      | none => none
theorem keys_v {K : PySem.W.Frag} {Z H : Hp} : ∀ {ds : List D} {vs : List V} {ks : List Ky}, RpL K Z vs ds → keysOf ds = some ks → vs = ks.map kV
  | [], _, ks, r, e => by cases r; cases e; rfl
  | d :: ds, _, ks, r, e => by
    cases r with
    | cons r1 r2 =>
      unfold keysOf at e
      cases e1 : keyD d with
      | none => rw [e1] at e; cases e
      | some k =>
        cases e2 : keysOf ds with
        | none => rw [e1, e2] at e; cases e
        | some ks' =>
          rw [e1, e2] at e
          cases e
          rw [keyD_v (K := K) (Z := Z) (H := H) (.inl r1) e1, keys_v (H := H) r2 e2]
          rfl
@[simp] def kDictZip : KN := k2 fun x y Q => match x with
  | .lst xs => (match y with
    | .lst ys => withO (keysOf xs) fun ks => Q (.ow (mergeD (.dic [] []) (ks.zip ys)))
    | _ => False)
  | _ => False
theorem re_dictZip {pz q : Pos} {wa : WRs} (hm : ∀ i, (F.X i).mg "dict" = none) (hm2 : ∀ i, (F.X i).mg "zip" = none) (ha : RRs F [a, b] wa) (hg : ∀ i, Gl (F.X i) "dict" := by intro _; rfl) (hg2 : ∀ i, Gl (F.X i) "zip" := by intro _; rfl)
    (hs : ∀ i, starEach [a, b] (F.X i).env = (false, eval a (F.X i).env) :: starEach [b] (F.X i).env := by intro _; rfl) (hpl : ∀ i, (backTo q (starEach [b] (F.X i).env)).any (·.1) = false := by intro _; rfl)
    (hs0 : ∀ i, starEach [.Call (.Name "zip" pz) [a, b] [] q] (F.X i).env = (false, eval (.Call (.Name "zip" pz) [a, b] [] q) (F.X i).env) :: starEach [] (F.X i).env := by intro _; rfl) :
    RE F (.Call (.Name "dict" p) [.Call (.Name "zip" pz) [a, b] [] q] [] pos) (wB kDictZip wa) := by
  obtain ⟨t, a1, a2⟩ := ha
  refine ⟨tCB (rDictZip F.K) t, fun i => by rw [← F.hK i]; exact pe_dictZip (F.calm i) (hg i) (hm i) (hg2 i) (hm2 i) (a1 i) (hs i) (hpl i) (hs0 i), LRs_call (fun B σ H ρ Z xs ds Q Q' S rx hk q' => ?_) a2⟩
  obtain ⟨d, e', rfl, hk⟩ := k2_of hk
  obtain ⟨x, y, rfl, rx1, ry1⟩ := pd2 rx
  cases d with
  | lst ds =>
    cases e' with
    | lst es =>
      obtain ⟨ks, ek, hq⟩ := withO_of (show withO (keysOf ds) (fun ks => Q' (.ow (mergeD (.dic [] []) (ks.zip es)))) from hk)
      obtain ⟨pa, vs, rfl, ha, ra⟩ := rd_lst S rx1
      obtain ⟨pb, us, rfl, hb, rb⟩ := rd_lst S ry1
      have ev := keys_v (H := H) ra ek
      subst ev
      refine ⟨pa, pb, ks, us, rfl, .of ha, .of hb, fun l hl => q' _ _ _ _ (S.alloc1 hl (merge_rp (kvs := []) (xs := []) ?_ .nil)) hq⟩
      have : ∀ {ks : List Ky} {us : List V} {es : List D}, RpL F.K Z us es → Paired (fun (p : Key × V) (q : Ky × D) => p.1 = q.1 ∧ Rp F.K Z p.2 q.2) (ks.zip us) (ks.zip es) := by
        intro ks
        induction ks with
        | nil => intro us es _; simp; exact .nil
        | cons k ks ih =>
          intro us es r
          cases r with
          | nil => simp; exact .nil
          | cons r1 r2 => exact .cons ⟨rfl, r1⟩ (ih r2)
      exact this rb
    | _ => exact (show False from hk).elim
  | _ => exact (show False from hk).elim
end
end Pu

set_option Elab.async false
set_option linter.all false
set_option maxRecDepth 100000
/-! Pu, lists of lists of our own. -/
namespace Pu
open PySem L2 PySem.Spec PyProof.Rows

theorem pd_impL {α β : Type} {F G : α → β → Prop} : ∀ {l : List α} {r : List β}, Paired F l r → (∀ a b, a ∈ l → F a b → G a b) → Paired G l r
  | _, _, .nil, _ => .nil
  | _, _, .cons h t, k => .cons (k _ _ (List.mem_cons_self ..) h) (pd_impL t fun a b m => k a b (List.mem_cons_of_mem _ m))
section
variable {K : PySem.W.Frag} {B : Bs} {σ : L2.St} {H H' : Hp} {ρ : En} {Z Z' : Hp}
/-- whatever is at hand is held while something else runs -/
theorem St1.holdA {v : V} {s : Sl} (S : St1 K B σ H ρ Z [(v, s)]) :
    ∃ B' : Bs, St1 K B' σ H ρ Z [] ∧ (∀ (σ' : L2.St) (H' : Hp) (ρ' : En) (Z' : Hp) (tmp : List (V × Sl)), St1 K B' σ' H' ρ' Z' tmp → St1 K B σ' H' ρ' Z' ((v, s) :: tmp) ∧ Le Z Z') ∧ ∀ a dss, v = .ref a → s = .oo dss → B'.Fx a = H a := by
  obtain ⟨fps, h1, h2⟩ := S.rp
  obtain ⟨f1, f2, rfl, p1, p2⟩ := pd_split h1
  obtain ⟨g, rfl, q⟩ := pd_one p2
  have ow := q.own
  have S0 := S.drop.rebase
  generalize hF : (fun b => if b ∈ g then H b else B.Fx b : Hp) = F'
  have Fa : ∀ {b : Addr}, b ∈ g → F' b = H b := fun m => by rw [← hF]; exact if_pos m
  have Fb : ∀ {b : Addr}, b ∉ g → F' b = B.Fx b := fun m => by rw [← hF]; exact if_neg m
  simp only [List.flatten_append, List.flatten_cons, List.flatten_nil, List.append_nil] at h2
  obtain ⟨n1, ng, dd⟩ := nodup_app h2
  refine ⟨⟨F', Z, B.H0, B.io⟩, ⟨S.len, S.sub, fun _ _ e => .inl e, fun _ _ e => e, fun b u eb => ?_, S.dm, ?_⟩, fun σ' H' ρ' Z' tmp S' => ?_, fun a dss ea es => ?_⟩
  · have eb : F' b = some u := eb
    by_cases m : b ∈ g
    · rw [Fa m] at eb; exact eb
    · rw [Fb m] at eb; exact S.fx _ _ eb
  · simp only [tmps, List.map_nil, List.append_nil]
    refine ⟨f1, Mv.pd (B := B) (B' := ⟨F', Z, B.H0, B.io⟩) (ex := g) ⟨fun _ _ e => e, fun _ _ _ _ z _ => z, fun b _ _ nb _ f => (Fb nb).trans f, fun _ _ _ _ z => z, fun _ _ e _ _ _ => e, rfl⟩ p1 (fun gg hg b hb m => ?_), n1⟩
    exact dd b (List.mem_flatten.mpr ⟨gg, hg, hb⟩) m
  · have k : Le Z Z' := S'.zo
    have hH : ∀ a ∈ g, H' a = H a := fun a m => by
      obtain ⟨_, _, o, e⟩ := ow a m
      rw [e]
      exact S'.fx a o ((Fa m).trans e)
    have hZ : ∀ a ∈ g, Z' a = none := fun a m => by
      obtain ⟨z, _, o, e⟩ := ow a m
      cases e2 : Z' a with
      | none => rfl
      | some u =>
        rcases S'.zn a u e2 with q | ⟨q, _⟩
        · have q : Z a = some u := q
          rw [z] at q; cases q
        · have q : F' a = none := q
          rw [Fa m, e] at q; cases q
    have back : ∀ {b : Addr}, F' b = none → B.Fx b = none := fun {b} q => by
      by_cases m : b ∈ g
      · exact (ow b m).2.1
      · rw [Fb m] at q; exact q
    refine ⟨⟨S'.len, S'.sub, fun b u e => ?_, S.zo.trans' k, fun b u e => ?_, S'.dm, ?_⟩, k⟩
    · rcases S'.zn b u e with q | ⟨q, q2⟩
      · exact S.zn b u q
      · exact .inr ⟨back q, q2⟩
    · by_cases m : b ∈ g
      · have := (ow b m).2.1
        rw [this] at e; cases e
      · exact S'.fx b u ((Fb m).trans e)
    · obtain ⟨fps, k1, k2⟩ := S'.rp
      obtain ⟨a1, a2, rfl, m1, m2⟩ := pd_split k1
      have mv : Mv ⟨F', Z, B.H0, B.io⟩ B Z' Z' H' H' [] := ⟨fun _ _ e => e, fun _ _ _ _ z _ => z, fun b _ _ _ _ f' => back f', fun _ _ _ _ z => z, fun _ _ e _ _ _ => e, rfl⟩
      have q' : SlR K B Z' H' (some v) g s := q.move rfl k (fun a m _ => hZ a m) (fun a m f => f) (fun a m z => z) hH
      refine ⟨a1 ++ g :: a2, pd_app (mv.pd m1 fun _ _ _ _ m => by cases m) (.cons q' (mv.pd m2 fun _ _ _ _ m => by cases m)), ?_⟩
      rw [List.flatten_append] at k2
      obtain ⟨n3, n4, d3⟩ := nodup_app k2
      have out : ∀ a ∈ g, a ∉ a1.flatten ∧ a ∉ a2.flatten := fun a m => by
        have no : ∀ {fs : List (List Addr)} {es : List Ent}, Paired (fun (e : Ent) fp => SlR K ⟨F', Z, B.H0, B.io⟩ Z' H' e.1 fp e.2) es fs → a ∉ fs.flatten := fun pp hm => by
          obtain ⟨_, q, _⟩ := pd_own pp a hm
          have q : F' a = none := q
          obtain ⟨_, _, o, e⟩ := ow a m
          rw [Fa m, e] at q; cases q
        exact ⟨no m1, no m2⟩
      have e5 : (a1 ++ g :: a2).flatten = a1.flatten ++ (g ++ a2.flatten) := by simp
      rw [e5]
      refine List.nodup_append.mpr ⟨n3, List.nodup_append.mpr ⟨ng, n4, fun a ha b hb ab => (out a ha).2 (ab ▸ hb)⟩, fun a ha b hb ab => ?_⟩
      subst ab
      rcases List.mem_append.mp hb with hb | hb
      · exact (out a hb).1 ha
      · exact d3 a ha hb
  · subst es
    obtain ⟨a', as, ev, rfl, _⟩ := q
    have ev : some v = some (V.ref a') := ev
    rw [ea] at ev
    cases ev
    exact Fa (List.mem_cons_self ..)
/-- what stands in a slot is taken out -/
theorem St1.take {i : Nat} {s : Sl} {v : V} (S : St1 K B σ H ρ Z []) (e : ρ[i]? = some s) (ev : σ[i]? = some (some v)) : St1 K B σ H (ρ.set i .un) Z [(v, s)] := by
  obtain ⟨u, l, r, e1, e2, e3⟩ := zip_focus S.len e
  rw [ev] at e1
  cases e1
  refine ⟨by rw [List.length_set]; exact S.len, S.sub, S.zn, S.zo, S.fx, S.dm, ?_⟩
  have R := S.rp
  simp only [tmps, List.map_nil, List.append_nil, e2] at R
  have e4 := e3 (some v) .un
  rw [set_same ev] at e4
  rw [e4]
  obtain ⟨fps, p, nd⟩ := R
  obtain ⟨f1, f2, rfl, p1, p2⟩ := pd_split p
  cases p2 with
  | cons q p2 =>
    rename_i g f2
    refine ⟨f1 ++ [] :: (f2 ++ [g]), ?_, ?_⟩
    · show Paired _ ((l ++ (some v, Sl.un) :: r) ++ [(some v, s)]) _
      rw [List.append_assoc]
      exact pd_app p1 (.cons rfl (pd_app p2 (.cons q .nil)))
    · have e5 : (f1 ++ [] :: (f2 ++ [g])).flatten = f1.flatten ++ (f2.flatten ++ g) := by simp
      have e6 : (f1 ++ g :: f2).flatten = f1.flatten ++ (g ++ f2.flatten) := by simp
      rw [e5]
      rw [e6] at nd
      have pm : (f1.flatten ++ (g ++ f2.flatten)).Perm (f1.flatten ++ (f2.flatten ++ g)) := List.Perm.append_left _ List.perm_append_comm
      exact pm.nodup_iff.mp nd
theorem St1.putBack {i : Nat} {s : Sl} {v : V} (S : St1 K B σ H ρ Z [(v, s)]) (ev : σ[i]? = some (some v)) : St1 K B σ H (ρ.set i s) Z [] := by
  have := S.store (i := i)
  rw [set_same ev] at this
  exact this
/-- the lists of a list of lists -/
theorem St1.oo {v : V} {dss : List (List D)} (S : St1 K B σ H ρ Z [(v, .oo dss)]) : ∃ (a : Addr) (as : List Addr), v = .ref a ∧ H a = some (.lst (as.map .ref)) ∧ as.length = dss.length ∧
    (∀ (n : Nat) ds, dss[n]? = some ds → ∃ b vs, as[n]? = some b ∧ H b = some (.lst vs) ∧ RpL K Z vs ds ∧ ∀ vs' ds', RpL K Z vs' ds' → St1 K B σ (upd H b (.lst vs')) ρ Z [(v, .oo (dss.set n ds'))]) := by
  obtain ⟨fps, h1, h2⟩ := S.rp
  obtain ⟨f1, f2, rfl, p1, p2⟩ := pd_split h1
  obtain ⟨g, rfl, q⟩ := pd_one p2
  obtain ⟨a, as, ev, rfl, hz, ha, hp⟩ := q
  cases ev
  simp only [List.flatten_append, List.flatten_cons, List.flatten_nil, List.append_nil] at h2
  obtain ⟨n1, ng, dd⟩ := nodup_app h2
  refine ⟨a, as, rfl, ha, pd_len hp, fun n ds e => ?_⟩
  obtain ⟨b, eb, vs, hb, rl⟩ := pd_get hp e
  refine ⟨b, vs, eb, hb, rl, fun vs' ds' rl' => ?_⟩
  have mb : b ∈ a :: as := List.mem_cons_of_mem _ (List.mem_of_getElem? eb)
  obtain ⟨zb, fb, h0b⟩ := hz b mb
  refine ⟨S.len, fun c u ec => upd_some (S.sub _ _ ec) (ne_of_none ec zb), S.zn, S.zo, fun c u ec => upd_some (S.fx _ _ ec) (ne_of_none ec fb), fun c ec => ?_, ?_⟩
  · by_cases cb : c = b
    · rw [cb, upd_same]; simp
    · rw [upd_ne cb]; exact S.dm c ec
  · have nab : a ≠ b := fun e => (List.nodup_cons.mp ng).1 (e ▸ List.mem_of_getElem? eb)
    have inner : ∀ {as : List Addr} {dss : List (List D)} {n : Nat}, as.Nodup → as[n]? = some b → Paired (fun b xs => ∃ vs, H b = some (.lst vs) ∧ RpL K Z vs xs) as dss → Paired (fun c xs => ∃ vs, upd H b (.lst vs') c = some (.lst vs) ∧ RpL K Z vs xs) as (dss.set n ds') := by
      intro as dss n nd e hp
      induction hp generalizing n with
      | nil => cases e
      | cons h t ih =>
        rename_i c xs cs xss
        have nd := List.nodup_cons.mp nd
        cases n with
        | zero =>
          have e : some c = some b := e
          cases e
          exact .cons ⟨vs', upd_same, rl'⟩ (pd_impL t fun x y m ⟨us, hx, rx⟩ => ⟨us, by rw [upd_ne (show x ≠ b from fun e2 => nd.1 (by rw [← e2]; exact m))]; exact hx, rx⟩)
        | succ n =>
          obtain ⟨us, hx, rx⟩ := h
          have nc : c ≠ b := fun e2 => nd.1 (e2 ▸ List.mem_of_getElem? (by simpa using e))
          exact .cons ⟨us, by rw [upd_ne nc]; exact hx, rx⟩ (ih nd.2 (by simpa using e))
    refine ⟨f1 ++ [a :: as], pd_app (Mv.pd (B := B) (B' := B) (ex := a :: as) ⟨fun _ _ e => e, fun _ _ _ _ z _ => z, fun _ _ _ _ _ f => f, fun _ _ _ _ z => z, fun c u ec nc _ _ => upd_some ec (fun e => nc (e ▸ mb)), rfl⟩ p1 (fun gg hg c hc m => dd c (List.mem_flatten.mpr ⟨gg, hg, hc⟩) m)) (.cons ⟨a, as, rfl, rfl, hz, by rw [upd_ne nab]; exact ha, inner (List.nodup_cons.mp ng).2 eb hp⟩ .nil), by simpa using h2⟩
/-- one more own list in a list of lists -/
theorem St1.push {p q : Addr} {dss : List (List D)} {ds : List D} {as : List Addr} {tmp : List (V × Sl)} (S : St1 K B σ H ρ Z [(.ref p, .oo dss), (.ref q, .ow (.lst ds))]) (hp : H p = some (.lst (as.map .ref))) (hl : as.length = dss.length) : St1 K B σ (upd H p (.lst ((as ++ [q]).map .ref))) ρ Z [(.ref p, .oo (dss ++ [ds]))] := by
  obtain ⟨fps, h1, h2⟩ := S.rp
  obtain ⟨f1, f2, rfl, p1, p2⟩ := pd_split h1
  cases p2 with
  | cons q1 p2 =>
    obtain ⟨g2, rfl, q2⟩ := pd_one p2
    rename_i g1
    obtain ⟨a, as', ev, rfl, hz, ha, hpd⟩ := q1
    obtain ⟨b, o, eb, rfl, zb, fb, h0b, hb, ro⟩ := q2
    have ev : some (V.ref p) = some (V.ref a) := ev
    have eb : some (V.ref q) = some (V.ref b) := eb
    cases ev
    cases eb
    rw [hp] at ha
    have eas : as.map V.ref = as'.map V.ref := by
      have := Option.some.inj ha
      injection this
    have eas : as = as' := by
      have inj : ∀ {l m : List Addr}, l.map V.ref = m.map V.ref → l = m := by
        intro l
        induction l with
        | nil => intro m e; cases m with
          | nil => rfl
          | cons _ _ => cases e
        | cons x l ih =>
          intro m e
          cases m with
          | nil => cases e
          | cons y m =>
            injection e with e1 e2
            injection e1 with e1
            rw [e1, ih e2]
      exact inj eas
    subst eas
    cases o with
    | lst vs =>
      have ro : RpL K Z vs ds := ro
      have e0 : (f1 ++ [p :: as, [q]]).flatten = f1.flatten ++ ((p :: as) ++ [q]) := by simp
      rw [e0] at h2
      obtain ⟨n1, n2, dd⟩ := nodup_app h2
      obtain ⟨n3, _, d3⟩ := nodup_app n2
      obtain ⟨zp, fp, h0p⟩ := hz p (List.mem_cons_self ..)
      have npq : q ≠ p := fun e => d3 p (List.mem_cons_self ..) (by simp [e])
      have nin : ∀ c ∈ as, c ≠ p := fun c m e => (List.nodup_cons.mp n3).1 (e ▸ m)
      refine ⟨S.len, fun c u ec => upd_some (S.sub _ _ ec) (ne_of_none ec zp), S.zn, S.zo, fun c u ec => upd_some (S.fx _ _ ec) (ne_of_none ec fp), fun c ec => ?_, ?_⟩
      · by_cases cb : c = p
        · rw [cb, upd_same]; simp
        · rw [upd_ne cb]; exact S.dm c ec
      · refine ⟨f1 ++ [p :: (as ++ [q])], pd_app (Mv.pd (B := B) (B' := B) (ex := p :: as) ⟨fun _ _ e => e, fun _ _ _ _ z _ => z, fun _ _ _ _ _ f => f, fun _ _ _ _ z => z, fun c u ec nc _ _ => upd_some ec (fun e => nc (e ▸ List.mem_cons_self ..)), rfl⟩ p1 (fun gg hg c hc m => dd c (List.mem_flatten.mpr ⟨gg, hg, hc⟩) (List.mem_append_left _ m))) (.cons ⟨p, as ++ [q], rfl, rfl, fun c m => ?_, upd_same, pd_app (pd_impL hpd fun c xs m ⟨us, hx, rx⟩ => ⟨us, by rw [upd_ne (nin c m)]; exact hx, rx⟩) (.cons ⟨vs, by rw [upd_ne npq]; exact hb, ro⟩ .nil)⟩ .nil), ?_⟩
        · rcases List.mem_cons.mp m with e | m
          · rw [e]; exact hz p (List.mem_cons_self ..)
          · rcases List.mem_append.mp m with m | m
            · exact hz c (List.mem_cons_of_mem _ m)
            · rw [List.mem_singleton.mp m]; exact ⟨zb, fb, h0b⟩
        · simpa using h2
    | _ => exact (show False from ro).elim
/-- an own list at hand, empty, is a list of no lists -/
theorem St1.none_oo {p : Addr} (S : St1 K B σ H ρ Z [(.ref p, .ow (.lst []))]) : St1 K B σ H ρ Z [(.ref p, .oo [])] := by
  obtain ⟨fps, h1, h2⟩ := S.rp
  obtain ⟨f1, f2, rfl, p1, p2⟩ := pd_split h1
  obtain ⟨g, rfl, q⟩ := pd_one p2
  obtain ⟨a, o, ev, rfl, z, f, h0, ha, ro⟩ := q
  refine ⟨S.len, S.sub, S.zn, S.zo, S.fx, S.dm, f1 ++ [[a]], pd_app p1 (.cons ⟨a, [], ev, rfl, fun b m => by rw [List.mem_singleton.mp m]; exact ⟨z, f, h0⟩, ?_, .nil⟩ .nil), h2⟩
  cases o with
  | lst vs =>
    have ro : RpL K Z vs [] := ro
    cases ro
    exact ha
  | _ => exact (show False from ro).elim
end

section
variable {K : PySem.W.Frag} {B : Bs} {σ : L2.St} {H : Hp} {ρ : En} {Z : Hp}
theorem tmp_first {v u : V} {s t : Sl} (S : St1 K B σ H ρ Z [(v, s), (u, t)]) : St1 K B σ H ρ Z [(v, s)] := by
  refine ⟨S.len, S.sub, S.zn, S.zo, S.fx, S.dm, ?_⟩
  obtain ⟨fps, h1, h2⟩ := S.rp
  obtain ⟨f1, f2, rfl, p1, p2⟩ := pd_split h1
  cases p2 with
  | cons q1 p2 =>
    obtain ⟨g2, rfl, q2⟩ := pd_one p2
    rename_i g1
    refine ⟨f1 ++ [g1], pd_app p1 (.cons q1 .nil), ?_⟩
    have e0 : (f1 ++ [g1, g2]).flatten = (f1 ++ [g1]).flatten ++ g2 := by simp
    rw [e0] at h2
    exact (nodup_app h2).1
theorem own_ref {v u : V} {s : Sl} {d : D} (S : St1 K B σ H ρ Z [(v, s), (u, .ow d)]) : ∃ q, u = .ref q := by
  obtain ⟨fps, h1, h2⟩ := S.rp
  obtain ⟨f1, f2, rfl, p1, p2⟩ := pd_split h1
  cases p2 with
  | cons q1 p2 =>
    obtain ⟨g2, rfl, q2⟩ := pd_one p2
    obtain ⟨a, o, e, _⟩ := q2
    have e : some u = some (V.ref a) := e
    cases e
    exact ⟨a, rfl⟩
end

/-! ### [own list for ..] -/
section
variable {F : Fm} {e a b : Expr} {pos p : Pos} {x : Str}
def wLcO (wi : WI) (g : WG) (tt : WT) (te : WE) (vs : List Nat) : WE := fun E ρ Q => wi E ρ fun items ρ1 => ∃ W : Nat → List (List D) → En → Prop, W 0 [] (wipeE ρ1 vs) ∧
  (∀ i x acc ρ, items[i]? = some x → W i acc ρ → g (.fz x) ρ fun ρ2 => tt noEX ρ2 fun b ρ3 =>
    if b = true then te noEX ρ3 fun s ρ4 => match s with
      | .ow (.lst d) => acc.length < sizeLine ∧ W (i + 1) (acc ++ [d]) (wipeE ρ4 vs)
      | _ => False
    else W (i + 1) acc (wipeE ρ3 vs)) ∧
  ∀ acc ρ, W items.length acc ρ → Q (.oo acc) (backE ρ1 ρ vs)
theorem lcO_ok {scope : Scope} {wi : WI} {g : WG} {wt : WT} {we : WE} {vs : List Nat} {ti : TI} {tg : TG} {tt : TT} {te : TE} (hi : LI F ti wi) (hg : LG (F.blk scope) tg g vs) (ht : LT (F.blk scope) tt wt) (he : LE (F.blk scope) te we) : LE F (tLc ti tg tt te vs) (wLcO wi g wt we vs) := by
  refine LE.of fun B σ H ρ Z Q Q' E S X hw q => hi B σ H ρ Z _ _ E S X hw fun J items H1 ρ1 Z1 S1 le1 it ⟨W, w0, ws, wz⟩ Dd hD => ?_
  obtain ⟨B', S', back⟩ := S1.base
  have SD : St1 F.K B' σ (upd H1 Dd (.lst [])) ρ1 Z1 [(.ref Dd, .oo [])] := (S'.alloc1 (o := .lst []) (d := .lst []) hD .nil).none_oo
  refine ⟨fun i m H => ∃ acc ρ Z, St1 F.K B' (wipe σ vs) H ρ Z [(.ref Dd, .oo acc)] ∧ i ≤ items.length ∧ m = items.length - i ∧ W i acc ρ, ⟨_, [], _, Z1, SD.wipe vs, Nat.zero_le _, rfl, w0⟩, ?_⟩
  rintro i m H2 ⟨acc, ρ2, Z2, S2, hi, rfl, hW⟩
  have le2 := (back _ _ _ _ _ S2).2
  have leH : Le Z1 H2 := le2.trans' S2.sub
  by_cases hlt : i < items.length
  · refine .inr ⟨it.1 i H2 leH hlt, fun H' => ∃ acc' ρ' Z', St1 F.K B' (wipe σ vs) H' ρ' Z' [(.ref Dd, .oo acc')] ∧ W (i + 1) acc' ρ', fun H' ⟨acc', ρ', Z', S', hW'⟩ => ⟨items.length - (i + 1), by omega, acc', ρ', Z', S', hlt, rfl, hW'⟩, fun x H' y => ?_⟩
    have e : items[i]? = some items[i] := by simp [hlt]
    obtain ⟨B3, S3, back3, _⟩ := S2.holdA
    have go : ∀ {H3 : Hp} {Z3 : Hp}, St1 F.K B3 (wipe σ vs) H3 ρ2 Z3 [] → Rp F.K Z3 x items[i] → tg x (wipe σ vs) H3 fun σ2 H2 => wipe σ2 vs = wipe σ vs ∧ tt σ2 H2 fun b H3 =>
        if b = true then te σ2 H3 fun y H4 => ∃ acc, H4 Dd = some (.lst acc) ∧ acc.length < sizeLine ∧ ∃ acc' ρ' Z', St1 F.K B' (wipe σ vs) (upd H4 Dd (.lst (acc ++ [y]))) ρ' Z' [(.ref Dd, .oo acc')] ∧ W (i + 1) acc' ρ' else ∃ acc' ρ' Z', St1 F.K B' (wipe σ vs) H3 ρ' Z' [(.ref Dd, .oo acc')] ∧ W (i + 1) acc' ρ' := fun {H3 Z3} S3 r => by
      refine hg B3 (wipe σ vs) H3 ρ2 Z3 x _ _ _ (S3.have r) (ws i _ acc ρ2 e hW) fun σ4 H4 ρ4 Z4 S4 _ w4 hw => ?_
      rw [wipe_wipe] at w4
      refine ⟨w4, ht B3 σ4 H4 ρ4 Z4 _ _ noEX S4 no_ex hw fun b H5 ρ5 Z5 S5 _ hw => ?_⟩
      cases b with
      | false =>
        have S6 := S5.wipe vs
        rw [w4] at S6
        exact ⟨acc, _, _, (back3 _ _ _ _ _ S6).1, hw⟩
      | true =>
        refine he B3 σ4 H5 ρ5 Z5 _ _ noEX S5 no_ex hw fun y s H6 ρ6 Z6 S6 _ hw => ?_
        have fin : ∀ d, s = .ow (.lst d) → acc.length < sizeLine → W (i + 1) (acc ++ [d]) (wipeE ρ6 vs) → ∃ acc, H6 Dd = some (.lst acc) ∧ acc.length < sizeLine ∧ ∃ acc' ρ' Z', St1 F.K B' (wipe σ vs) (upd H6 Dd (.lst (acc ++ [y]))) ρ' Z' [(.ref Dd, .oo acc')] ∧ W (i + 1) acc' ρ'   := fun d es hz hw2 => by
          rw [es] at S6
          have S8 := S6.wipe vs
          rw [w4] at S8
          have S9 := (back3 _ _ _ _ _ S8).1
          obtain ⟨a, as, ea, haD, hlen, _⟩ := (St1.oo (tmp_first S9))
          cases ea
          obtain ⟨q, rfl⟩ := own_ref S9
          refine ⟨as.map .ref, haD, by rw [List.length_map, hlen]; exact hz, acc ++ [d], _, Z6, ?_, hw2⟩
          have := S9.push (tmp := []) haD hlen
          rw [List.map_append] at this
          exact this
        cases s with
        | ow d =>
          cases d with
          | lst d =>
            obtain ⟨hz, hw2⟩ := (show acc.length < sizeLine ∧ W (i + 1) (acc ++ [d]) (wipeE ρ6 vs) from hw)
            exact fin d rfl hz hw2
          | _ => exact (show False from hw).elim
        | _ => exact (show False from hw).elim
    rcases it.2.2 i _ H2 x H' leH e y with ⟨rfl, r⟩ | ⟨p, us, ds, hp, rfl, rfl, ed, rl⟩
    · exact go S3 (Rp.le le2 _ _ r)
    · obtain ⟨S4, le4⟩ := S3.allocZ (o := .tup us) hp
      exact go S4 (by rw [ed]; exact .tup (.of upd_same) (RpL.le (le2.trans' le4) _ _ rl))
  · have e : i = items.length := by omega
    subst e
    refine .inl ⟨it.2.1 H2 leH, ?_⟩
    exact q _ _ H2 _ Z2 (S1.unwipe (back _ _ _ _ _ S2).1 le2) (wz acc ρ2 hW)
theorem re_lcO {elt tg iter : Expr} {ifs : List Expr} {scope : Scope} {own : List (Str × Nat)} {wi : WI} {g : WG} {wt : WT} {we : WE} (hi : RI F tg iter wi) (ok : ∀ i, BlkOk (F.X i).N (F.X i).env.scope scope own) (hg : RG (F.blk scope) tg g (own.map (·.2))) (ht : RTs (F.blk scope) ifs wt) (he : RE (F.blk scope) elt we)
    (hs : ∀ i x, foldedSetIterable iter (F.X i).env x = pure x := by intro _ _; rfl) : RE F (.ListComp elt [⟨tg, iter, ifs, 0⟩] scope pos) (wLcO wi g wt we (own.map (·.2))) := by
  obtain ⟨ti, i1, i2⟩ := hi
  obtain ⟨tg', g1, g2⟩ := hg
  obtain ⟨tt, t1, t2⟩ := ht
  obtain ⟨te, e1, e2⟩ := he
  exact ⟨_, fun i => pe_lc (F.calm i) (F.nd i) (i1 i) (ok i) (fun s H C cl fp => g1 (i, s, H, C, cl, fp)) (fun s H C cl fp => t1 (i, s, H, C, cl, fp)) (fun s H C cl fp => e1 (i, s, H, C, cl, fp)) (hs i), lcO_ok i2 g2 t2 e2⟩
theorem rs_lcO (k : Nat) {y : Str} {py spos : Pos} {elt tg iter : Expr} {ifs : List Expr} {scope : Scope} {own : List (Str × Nat)} {wi : WI} {g : WG} {wt : WT} {we : WE} (hi : RI F tg iter wi) (ok : ∀ i, BlkOk (F.X i).N (F.X i).env.scope scope own) (hg : RG (F.blk scope) tg g (own.map (·.2))) (ht : RTs (F.blk scope) ifs wt) (he : RE (F.blk scope) elt we)
    (hsw : ∀ i, swapsWith (.ListComp elt [⟨tg, iter, ifs, 0⟩] scope pos) (some (.Name y py)) spos.line (F.X i).env = pure true) (hy : ∀ i, (F.X i).N[k]? = some y := by intro _; rfl) (hyl : ∀ i, (F.X i).env.scope.names.lookup y = some .local := by intro _; rfl)
    (hs : ∀ i x, foldedSetIterable iter (F.X i).env x = pure x := by intro _ _; rfl) : RS F (.Assign [.Name y py] (.ListComp elt [⟨tg, iter, ifs, 0⟩] scope pos) spos) (wSet k (wLcO wi g wt we (own.map (·.2)))) := by
  obtain ⟨ti, i1, i2⟩ := hi
  obtain ⟨tg', g1, g2⟩ := hg
  obtain ⟨tt, t1, t2⟩ := ht
  obtain ⟨te, e1, e2⟩ := he
  exact ⟨_, fun i => ps_setLc (F.calm i) (F.nd i) (hy i) (hyl i) (hsw i) (i1 i) (ok i) (fun s H C cl fp => g1 (i, s, H, C, cl, fp)) (fun s H C cl fp => t1 (i, s, H, C, cl, fp)) (fun s H C cl fp => e1 (i, s, H, C, cl, fp)) (hs i),
    fun B σ H ρ Z D C S O hw => lcO_ok i2 g2 t2 e2 B σ H ρ Z _ _ _ S O.ex hw fun v s H1 ρ1 Z1 S1 _ hw => O.nx _ H1 _ Z1 S1.store hw⟩

/-! ### x[i].append(e): the list of lists is out of sight while e runs -/
@[simp] def ooS : Option Sl → Option (List (List D))
  | some (.oo dss) => some dss
  | _ => none
theorem ooS_of {s : Option Sl} {dss : List (List D)} (h : ooS s = some dss) : s = some (.oo dss) := by
  match s, h with
  | some (.oo d), h => cases h; rfl
@[simp] def wMutAt (k : KM) (j : Nat) (wi : WR) (as : WVs) : WE := fun E ρ Q => withO (ooS ρ[j]?) fun _ => wi E ρ fun r ρ1 => withO (ooS ρ1[j]?) fun dss => with1 (look ρ1 r) fun d => match d with
  | .int i => withO (ixN dss.length i) fun n => withO dss[n]? fun xs => as E (ρ1.set j .un) fun ds ρ2 => k (.lst xs) ds fun e d' => match d' with
    | .lst ys => Q (.fz e) (ρ2.set j (.oo (dss.set n ys)))
    | _ => False
  | _ => False
theorem re_mutAt {id : String} {k : KM} {wi : WR} {wa : WVs} {es : List Expr} {ie : Expr} {name : Str} {apos cpos npos ipos : Pos} (j : Nat) (hc : MutD F id k) (hi : RR F ie wi) (ha : RVs F (e :: es) wa) (pa : PlainAttrs "list") (slot : Slot "list" name id) (hty : typeOf (.builtin id) = pure (.type "method_descriptor"))
    (hpi : PlainIx ie := by intro _ _; rfl) (hN : ∀ i, (F.X i).N[j]? = some x := by intro _; rfl) (hv : ∀ j, Vis (F.X j).env.scope x := by intro _; first | exact Or.inl rfl | exact Or.inr (Or.inl rfl) | exact Or.inr (Or.inr rfl)) (hd : (x == ("__debug__" : Str)) = false := by decide) (hcd : (x == ("__classdict__" : Str)) = false := by decide)
    (hbase : ∀ i, attributeBase (.Subscript (.Name x npos) ie ipos) name (F.X i).env (eval (.Subscript (.Name x npos) ie ipos) (F.X i).env) = eval (.Subscript (.Name x npos) ie ipos) (F.X i).env := by intro _; rfl)
    (hfew : ∀ i, ((backTo cpos (starEach (e :: es) (F.X i).env)).all (fun x => !x.1) && (backToKw cpos (keywordEach [] (F.X i).env)).all (fun x => x.1.isSome)
      && decide ((e :: es).length + ([] : List Keyword).length + (if ([] : List Keyword).isEmpty then 0 else 1) < 30)) = true := by intro _; rfl)
    (hline : (apos.endLine == cpos.line) = true := by rfl) (hs : ∀ i, starEach (e :: es) (F.X i).env = (false, eval e (F.X i).env) :: starEach es (F.X i).env := by intro _; rfl) (hplain : ∀ i, (backTo cpos (starEach es (F.X i).env)).any (·.1) = false := by intro _; rfl) :
    RE F (.Call (.Attribute (.Subscript (.Name x npos) ie ipos) name apos) (e :: es) [] cpos) (wMutAt k j wi wa) := by
  obtain ⟨r, h1, h2⟩ := hc
  obtain ⟨ti, i1, i2⟩ := hi
  obtain ⟨t, a1, a2⟩ := ha
  refine ⟨tBM F.K "list" r (tOp (rIxL F.K) (tVar j) ti) t, fun i => by rw [← F.hK i]; exact pe_bm pa slot hty (h1 i) (pe_ix ix_list (pe_var (hN i) (hv i) hd hcd) (i1 i) hpi) (a1 i) (hbase i) (hfew i) hline (hs i) (hplain i), LE.of fun B σ H ρ Z Q Q' E S X hw q => ?_⟩
  obtain ⟨dss0, e0, hw⟩ := withO_of hw
  obtain ⟨v, g, ev, sl⟩ := S.slot (ooS_of e0)
  obtain ⟨a0, as0, rfl, _⟩ := sl
  refine ⟨.ref a0, ev, i2 B σ H ρ Z _ _ E S X hw fun y r1 H1 ρ1 Z1 S1 le1 o1 hw => ?_⟩
  obtain ⟨dss, e1, hw⟩ := withO_of hw
  obtain ⟨dx, e2, hw⟩ := with1_of hw
  have ry := S1.read o1 e2
  cases dx with
  | int i =>
    obtain ⟨n, en, hw⟩ := withO_of (show withO _ _ from hw)
    obtain ⟨xs, ex, hw⟩ := withO_of hw
    have T1 := S1.take (ooS_of e1) ev
    obtain ⟨a, as, ea, hLa, hlen, look⟩ := T1.oo
    cases ea
    obtain ⟨b, vs, eb, hb, rl, _⟩ := look n xs ex
    refine ⟨a0, as.map .ref, i, .ref b, rfl, rd_int ry, .of hLa, ?_, ?_⟩
    · unfold atI
      rw [List.length_map, hlen, en]
      show (as.map V.ref)[n]? = some (.ref b)
      rw [List.getElem?_map, eb]
      rfl
    · refine ⟨.inl ⟨rfl, vs, .of hb⟩, ?_⟩
      obtain ⟨B3, S3, back3, fx3⟩ := T1.holdA
      have X3 : ExOk F B3 E := fun σ' H' ρ' Z' C dx v d S r rp qq => X σ' H' ρ' Z' C dx v d (back3 _ _ _ _ _ S).1.drop r rp qq
      refine a2 B3 σ H1 _ Z1 _ _ E S3 X3 hw fun us ds H4 ρ4 Z4 S4 le4 ru hw => ?_
      obtain ⟨S5, _⟩ := back3 _ _ _ _ _ S4
      obtain ⟨a', as', ea', hLa', hlen', look'⟩ := S5.oo
      cases ea'
      -- the lists are where they were: what is held stays
      obtain ⟨b', vs', eb', hb', rl', put⟩ := look' n xs ex
      have same : b' = b := by
        have h5 := S4.fx a0 _ ((fx3 a0 dss rfl rfl).trans hLa)
        rw [h5] at hLa'
        have h6 : as.map V.ref = as'.map V.ref := by
          have h7 := Option.some.inj hLa'
          injection h7
        have h8 : (as.map V.ref)[n]? = (as'.map V.ref)[n]? := by rw [h6]
        rw [List.getElem?_map, List.getElem?_map, eb, eb'] at h8
        have h9 : some (V.ref b) = some (V.ref b') := h8
        injection h9 with h9
        injection h9 with h9
        exact h9.symm
      subst same
      refine h2 Z4 H4 b' (.lst vs') (.lst xs) us ds Q _ S4.sub hb' rl' ru hw fun v e o' d' ro rv hq => ?_
      cases d' with
      | lst ys =>
        cases o' with
        | lst ws => exact q v _ _ _ _ (((put ws ys ro).putBack ev).have rv) hq
        | _ => exact (show False from ro).elim
      | _ => exact (show False from hq).elim
  | _ => exact (show False from hw).elim
end
end Pu

set_option Elab.async false
set_option linter.all false
set_option maxRecDepth 100000
/-! Pu, attributes; methods and makings whose callee is a promise of Pu; a def read where all stays. -/
namespace Pu
open PySem L2 PySem.Spec PyProof.Rows

section
variable {F : Fm} {e : Expr} {pos : Pos} {w : WR}
/-- e.f, an attribute -/
theorem re_fld {C : Addr} (own : Str) (cl : Cls F.K C) (hn : NoAttr F.K C own) (ha : RR F e w) (hab : ∀ i, attributeBase e own (F.X i).env (eval e (F.X i).env) = eval e (F.X i).env := by intro _; rfl) : RE F (.Attribute e own pos) (wProp C own w) := by
  obtain ⟨t, a1, a2⟩ := ha
  refine ⟨tFld F.K t own, fun i => by rw [← F.hK i]; exact pe_fld (a1 i) (hab i), LE.of fun B σ H ρ Z Q Q' E S X hw q => a2 B σ H ρ Z _ _ E S X hw fun x r H1 ρ1 Z1 S1 le1 o1 hw => ?_⟩
  obtain ⟨d, e1, hw⟩ := with1_of hw
  obtain ⟨⟨C', fs, xs⟩, e3, hC, hw2⟩ := withO_of hw
  have hC : C' = C := hC
  subst hC
  obtain ⟨dv, e2, hq⟩ := withO_of hw2
  obtain ⟨a, dx, kvs, rfl, hz, hh, en, rl⟩ := rd_insOf S1 (S1.read o1 e1) e3
  obtain ⟨v, h1, rv⟩ := fld_look rl (by rw [en]; exact e2)
  exact ⟨a, C', dx, kvs, v, rfl, hh, cl, hn, h1, q _ _ _ _ _ (S1.have rv) hq⟩
end
section
variable {X : Cx} {W : WX} {k n : Nat} {f C : Addr} {fd : FuncData} {ps : List Str} {sp : Sp} {x m : Str} {p pos apos : Pos} {e o : Expr} {es : List Expr} {ta : TE} {t : TA}
theorem pg_meth {pl : Sem Bool} (he : PE X o ta) (c : Cls X.K C) (hm : Meth X.K C m f) (G : FnG X.prog X.w X.K X.mg X.base k f fd ps sp) (hr : Room k X.A) (hgd : X.A.guards = some []) (hb : Bd fd ps (n + 1) []) (tkx : Takes X W) (ha : PA X (e :: es) t)
    (hst : starEach (e :: es) X.env = (false, eval e X.env) :: starEach es X.env := by rfl) (hpl : (backTo pos (starEach es X.env)).any (·.1) = false := by rfl)
    (ht : eval (.Call (.Attribute o m apos) (e :: es) [] pos) X.env = (do
      let ov ← eval o X.env
      standAt apos.atName
      let (f, first) ← holding [ov] (getMethod ov m pl)
      callWith pos f first (backTo pos (starEach (e :: es) X.env)) (backToKw pos (keywordEach [] X.env))) := by rfl) :
    PE X (.Call (.Attribute o m apos) (e :: es) [] pos) (fun σ H Q => ta σ H fun x H1 => ∃ a dx fs, x = .ref a ∧ H1 a = some (.ins C dx fs) ∧ fs.lookup m = none ∧ t σ H1 fun vs H2 => vs.length = n ∧ sp (.ref a :: vs) H2 Q (L2.WE W σ)) := by
  refine ⟨fun pins s σ H Q I h => ?_⟩
  refine PySem.W.methodCall_KW (pl := pl) (thn (he.run pins s σ H _ I h) fun u s1 ⟨x, H1, I1, rx, a, dx, fs, ex, ea, l, q⟩ => ?_) ht
  subst ex
  obtain rfl : u = Value.ref a := rx
  refine getmeth_ok I1 ea c hm l ?_
  refine PySem.W.callWith_K (first := [.ref a]) (h₀ := X.base) I.ok.mod.kin hm.kp (thn (ha.run pos pins s1 σ H1 _ I1 q) fun us s2 ⟨vs, H2, I2, r, ln, q2⟩ => ⟨I2.kIn, ?_⟩) hst hpl
  have q3 : sp ((V.ref a :: vs) ++ []) H2 Q (L2.WE W σ) := by rw [List.append_nil]; exact q2
  have := run_g (us := .ref a :: us) (vs := .ref a :: vs) (ws := []) (zs := []) (n := n + 1) (ks := []) G hr hgd hb tkx I2 (.cons rfl r) .nil (by rw [List.length_cons, ← r.length, ln]) rfl q3
  exact this
theorem pg_meth0 {pl : Sem Bool} (he : PE X o ta) (c : Cls X.K C) (hm : Meth X.K C m f) (G : FnG X.prog X.w X.K X.mg X.base k f fd ps sp) (hr : Room k X.A) (hgd : X.A.guards = some []) (hb : Bd fd ps 1 []) (tkx : Takes X W)
    (ht : eval (.Call (.Attribute o m apos) [] [] pos) X.env = (do
      let ov ← eval o X.env
      standAt apos.atName
      let (f, first) ← holding [ov] (getMethod ov m pl)
      callWith pos f first (backTo pos (starEach [] X.env)) (backToKw pos (keywordEach [] X.env))) := by rfl) :
    PE X (.Call (.Attribute o m apos) [] [] pos) (fun σ H Q => ta σ H fun x H1 => ∃ a dx fs, x = .ref a ∧ H1 a = some (.ins C dx fs) ∧ fs.lookup m = none ∧ sp [.ref a] H1 Q (L2.WE W σ)) := by
  refine ⟨fun pins s σ H Q I h => ?_⟩
  refine PySem.W.methodCall_KW (pl := pl) (thn (he.run pins s σ H _ I h) fun u s1 ⟨x, H1, I1, rx, a, dx, fs, ex, ea, l, q⟩ => ?_) ht
  subst ex
  obtain rfl : u = Value.ref a := rx
  refine getmeth_ok I1 ea c hm l ?_
  exact PySem.W.callWith_K0 (first := [.ref a]) I1.kIn hm.kp (run_g (us := [.ref a]) (vs := [.ref a]) (ws := []) (zs := []) (n := 1) (ks := []) G hr hgd hb tkx I1 (.cons rfl .nil) .nil rfl rfl q)
theorem run_makeG {pins : List (Addr × Obj)} {σ : L2.St} {H : Hp} {s : Shared} {Q : VK} {us : List Value} {vs : List V} (M : Mk X.K C f) (G : FnG X.prog X.w X.K X.mg X.base k f fd ps sp) (hr : Room (k + 1) X.A) (hgd : X.A.guards = some []) (hb : Bd fd ps (n + 1) []) (tkx : Takes X W)
    (I : Inv X pins σ H s) (r : Vals vs us) (ln : vs.length = n)
    (h : ∀ x dx, H x = none → H dx = none → dx ≠ x → sp (.ref x :: vs) (upd (upd H dx (.own x)) x (.ins C dx [])) (fun v H2 => v = .non ∧ Q (.ref x) H2) (L2.WE W σ)) :
    wpAny (model X.prog X.w) X.A (call (.ref C) us) (EP X pins σ Q) X.xe s := by
  have hq := h (s.heap.objs.size + 1) s.heap.objs.size (I.hok.fresh (Nat.le_succ _)) (I.hok.fresh (Nat.le_refl _)) (Nat.ne_of_lt (Nat.lt_succ_self _))
  have I2 := Inv.made (C := C) I
  have r2 : Vals (V.ref (s.heap.objs.size + 1) :: vs) (Value.ref (s.heap.objs.size + 1) :: us) := .cons rfl r
  have hgd2 : (X.A).guards = some [] := hgd
  refine wpAny_call (make_map (f := f) I.kIn M.makes M.init (beq_iff_eq.mp M.fn) (codeAny_mono (G.go _ X.stack _ _ ⟨Value.ref (s.heap.objs.size + 1) :: us, []⟩ (Value.ref (s.heap.objs.size + 1) :: us) _ _ (L2.WE W σ) (hr.make C us []) ?_
    (I2.env0.make C us []) (.of_eq ?_) r2 hq) fun r s' hq' => ?_))
  · first
      | exact hgd2
      | simpa using hgd2
  · have := hb (Value.ref (s.heap.objs.size + 1) :: us) [] (by rw [List.length_cons, ← r.length, ln]) rfl
    simpa using this
  cases r with
  | error e => exact passAt tkx σ pins _ _ e s' I2 hq'
  | ok fl =>
    cases fl with
    | ret u =>
      obtain ⟨v, H', I3, rv, ev, q3⟩ := I2.after hq'
      subst ev
      exact ⟨rv, ⟨V.ref (s.heap.objs.size + 1), H', I3, rfl, q3⟩⟩
    | next => exact False.elim hq'
    | brk => exact False.elim hq'
    | cont => exact False.elim hq'
theorem pg_make (M : Mk X.K C f) (G : FnG X.prog X.w X.K X.mg X.base k f fd ps sp) (hr : Room (k + 1) X.A) (hgd : X.A.guards = some []) (hg : Gl X x) (hm : X.mg x = some (.ref C)) (hb : Bd fd ps (n + 1) []) (tkx : Takes X W)
    (ha : PA X (e :: es) t) (hdb : (x == ("__debug__" : Str)) = false := by decide) (he : starEach (e :: es) X.env = (false, eval e X.env) :: starEach es X.env := by rfl) (hpl : (backTo pos (starEach es X.env)).any (·.1) = false := by rfl) :
    PE X (.Call (.Name x p) (e :: es) [] pos) (fun σ H Q => t σ H fun vs H1 => vs.length = n ∧ ∀ y dx, H1 y = none → H1 dx = none → dx ≠ y → sp (.ref y :: vs) (upd (upd H1 dx (.own y)) y (.ins C dx [])) (fun v H2 => v = .non ∧ Q (.ref y) H2) (L2.WE W σ)) := by
  refine ⟨fun pins s σ H Q I h => ?_⟩
  refine wpAny_Call_Name_kw (ld_glob I hg hm ?_ hdb)
  refine PySem.W.callWith_K (h₀ := X.base) I.ok.mod.kin M.kp (thn (ha.run pos pins s σ H _ I h) fun us s1 ⟨vs, H1, I1, r, ln, q⟩ => ⟨I1.kIn, ?_⟩) he hpl
  exact run_makeG M G hr hgd hb tkx I1 r ln q
theorem pg_make0 (M : Mk X.K C f) (G : FnG X.prog X.w X.K X.mg X.base k f fd ps sp) (hr : Room (k + 1) X.A) (hgd : X.A.guards = some []) (hg : Gl X x) (hm : X.mg x = some (.ref C)) (hb : Bd fd ps 1 []) (tkx : Takes X W)
    (hdb : (x == ("__debug__" : Str)) = false := by decide) : PE X (.Call (.Name x p) [] [] pos) (fun σ H Q => ∀ y dx, H y = none → H dx = none → dx ≠ y → sp [.ref y] (upd (upd H dx (.own y)) y (.ins C dx [])) (fun v H2 => v = .non ∧ Q (.ref y) H2) (L2.WE W σ)) := by
  refine ⟨fun pins s σ H Q I h => ?_⟩
  refine wpAny_Call_Name_kw (ld_glob I hg hm ?_ hdb)
  exact PySem.W.callWith_K0 I.kIn M.kp (run_makeG (us := []) (vs := []) (n := 0) M G hr hgd hb tkx I .nil rfl h)
end
/-! ### where all stays -/
section
variable {K : PySem.W.Frag} {B : Bs} {σ : L2.St} {H H' : Hp} {ρ : En} {Z : Hp}
def allB (H : Hp) : Bs := ⟨H, H, H, fun _ => 0⟩
theorem St1.all {ρ : En} (hl : σ.length = ρ.length) (h : Paired (fun v s => s = .un ∨ ∃ u d, v = some u ∧ s = .fz d ∧ Rp K H u d) σ ρ) : St1 K (allB H) σ H ρ H [] := by
  refine ⟨hl, fun _ _ e => e, fun _ _ e => .inl e, fun _ _ e => e, fun _ _ e => e, fun _ e => e, ?_⟩
  simp only [tmps, List.map_nil, List.append_nil]
  have : ∀ {σ : L2.St} {ρ : En}, Paired (fun v s => s = .un ∨ ∃ u d, v = some u ∧ s = .fz d ∧ Rp K H u d) σ ρ → ∃ fps : List (List Addr), Paired (fun (e : Ent) fp => SlR K (allB H) H H e.1 fp e.2) (σ.zip ρ) fps ∧ fps.flatten = [] := by
    intro σ ρ h
    induction h with
    | nil => exact ⟨[], .nil, rfl⟩
    | cons q t ih =>
      obtain ⟨fps, p, e⟩ := ih
      rcases q with rfl | ⟨u, d, rfl, rfl, r⟩
      · exact ⟨[] :: fps, .cons rfl p, by simpa using e⟩
      · exact ⟨[] :: fps, .cons ⟨rfl, u, rfl, r⟩ p, by simpa using e⟩
  obtain ⟨fps, p, e⟩ := this h
  exact ⟨fps, p, by rw [e]; exact List.nodup_nil⟩
/-- all that is new stays -/
def grow (Z H H' : Hp) : Hp := fun c => match Z c with
  | some o => some o
  | none => match H c with
    | none => H' c
    | some _ => none
theorem grow_old {Z H H' : Hp} {c : Addr} {o : HO} (h : Z c = some o) : grow Z H H' c = some o := by unfold grow; rw [h]
theorem grow_new {Z H H' : Hp} {c : Addr} (hz : Z c = none) (h : H c = none) : grow Z H H' c = H' c := by unfold grow; rw [hz, h]
theorem grow_of {Z H H' : Hp} {c : Addr} {o : HO} (h : grow Z H H' c = some o) : Z c = some o ∨ (Z c = none ∧ H c = none ∧ H' c = some o) := by
  cases e : Z c with
  | some u => rw [grow_old e] at h; exact .inl (h ▸ rfl)
  | none =>
    cases e2 : H c with
    | none => rw [grow_new e e2] at h; exact .inr ⟨rfl, rfl, h⟩
    | some u => unfold grow at h; rw [e, e2] at h; cases h
theorem St1.grown (S : St1 K B σ H ρ Z []) (k : ∀ c o, H c = some o → H' c = some o) : St1 K B σ H' ρ (grow Z H H') [] ∧ Le Z (grow Z H H') := by
  have le : Le Z (grow Z H H') := fun c o e => grow_old e
  refine ⟨⟨S.len, fun c o e => ?_, fun c o e => ?_, S.zo.trans' le, fun c o e => k c o (S.fx c o e), fun c e => ?_, ?_⟩, le⟩
  · rcases grow_of e with e | ⟨_, _, e⟩
    · exact k c o (S.sub c o e)
    · exact e
  · rcases grow_of e with e | ⟨_, h0, _⟩
    · exact S.zn c o e
    · have := S.fresh h0
      exact .inr ⟨this.2.1, this.2.2⟩
  · have := S.dm c e
    cases e2 : H c with
    | none => exact absurd e2 this
    | some o => rw [k c o e2]; simp
  · exact Mv.reps (B := B) (B' := B) ⟨le, fun c o e _ z f => by unfold grow; rw [z, e], fun _ _ _ _ _ f => f, fun _ _ _ _ z => z, fun c o e _ _ _ => k c o e, rfl⟩ S.rp
end
/-! ### the first statements of a body -/
def RSx (F : Fm) (pre : List Stmt) (w : WS) : Prop := ∃ T : TS → TS, (∀ i rest tr, PSs (F.X i) rest tr → PSs (F.X i) (pre ++ rest) (T tr)) ∧ ∀ tr B σ H ρ Z D K, St1 F.K B σ H ρ Z [] → EnOk F B { D with nx := tr D } K → w K ρ → T tr D σ H
theorem rx_nil {F : Fm} : RSx F [] wPass := ⟨fun tr => tr, fun _ _ _ h => h, fun tr B σ H ρ Z D K S O hw => O.nx σ H ρ Z S hw⟩
theorem rx_cons {F : Fm} {st : Stmt} {pre : List Stmt} {w u : WS} (h : RS F st w) (h' : RSx F pre u) : RSx F (st :: pre) (wSeq w u) := by
  obtain ⟨t, a1, a2⟩ := h
  obtain ⟨T, b1, b2⟩ := h'
  refine ⟨fun tr => _, fun i rest tr hr => pss_cons (a1 i) (b1 i rest tr hr), fun tr B σ H ρ Z D K S O hw => ?_⟩
  exact a2 B σ H ρ Z _ { K with nx := u K } S ⟨fun σ1 H1 ρ1 Z1 S1 q => b2 tr B σ1 H1 ρ1 Z1 D K S1 O q, O.rt, O.bk, O.ct, O.ex⟩ hw
section
variable {P : Program} {w : World} {K : PySem.W.Frag} {mg : Str → Option Value} {base : Heap} {k : Nat} {f : Addr} {fd : FuncData} {ps : List Str}
theorem fmP_of {qual : Str} {st : Stmt} {N : List Str} (S : FnScope N ps (defScope st)) {cdv : Value} {A : Around} {outer : List Env} {s : Shared} {H : Hp} {E : XK} (hr : Room k (A.deeper (envOfC qual (defScope st) s.heap.objs.size f cdv))) (hgd : (A.deeper (envOfC qual (defScope st) s.heap.objs.size f cdv)).guards = some []) :
    FmP (cxOf (L2.CX P w) P w K mg base N qual (defScope st) f cdv A outer s H E) K (fun cls d _ H => E cls d H) w :=
  ⟨rfl, rfl, S.nd, (by have := hr.un; show (A.deeper _).units + 80 < cLine; omega), hgd, passes_of rfl, takes_of rfl rfl rfl rfl, rfl⟩
end
theorem noEnds {F : Fm} {B : Bs} {D : Ends} {P : En → Prop} (h : ∀ σ H ρ Z, St1 F.K B σ H ρ Z [] → P ρ → D.nx σ H) : EnOk F B D { nx := P, rt := fun _ _ => False } :=
  ⟨h, fun _ _ _ _ _ _ _ q => (show False from q).elim, fun _ _ _ _ _ q => (show False from q).elim, fun _ _ _ _ _ q => (show False from q).elim, fun _ _ _ _ _ _ _ _ _ _ _ q => (show False from q).elim⟩
end Pu

set_option Elab.async false
set_option linter.all false
set_option maxRecDepth 100000
/-! Pu, how a house is told: what the reader holds, line by line. -/
namespace Pu
open PySem L2 PySem.Spec PyProof.Rows TL

/-- a name of a room -/
def nameSigns (l : List Nat) : Bool := l.all fun c => (decide (97 ≤ c) && decide (c ≤ 122)) || (decide (48 ≤ c) && decide (c ≤ 57))
structure OkName (x : Str) : Prop where
  some : 0 < (tl x).length
  few : (tl x).length ≤ 8
  fst : ∃ c r, tl x = c :: r ∧ 97 ≤ c ∧ c ≤ 122
  all : nameSigns (tl x) = true
def rdD (C : Nat) (rs : List Str) (ds : List (Str × Str)) : D := .ins C ["own_rooms", "own_doors"] [.lst (rs.map D.str), .lst (ds.map fun d => .tup [.str d.1, .str d.2])]
/-- the reader at r: its lists at a, b; the doors at ts -/
structure RdAt (C : Addr) (H : Hp) (r dx a b : Addr) (rs : List Str) (ts : List Addr) (ds : List (Str × Str)) : Prop where
  ob : H r = some (.ins C dx [("own_rooms", .ref a), ("own_doors", .ref b)])
  ro : H a = some (.lst (rs.map .str))
  do_ : H b = some (.lst (ts.map .ref))
  pa : Paired (fun t (d : Str × Str) => H t = some (.tup [.str d.1, .str d.2])) ts ds
  ab : a ≠ b
theorem RdAt.rp {C : Addr} {H : Hp} {r dx a b : Addr} {rs : List Str} {ts : List Addr} {ds : List (Str × Str)} {K : PySem.W.Frag} (h : RdAt C H r dx a b rs ts ds) : Rp K H (.ref r) (rdD C rs ds) := by
  refine .ins (fs := [("own_rooms", .ref a), ("own_doors", .ref b)]) h.ob rfl (.cons (.lst h.ro (RpL.strs rs)) (.cons (.lst h.do_ ?_) .nil))
  have : ∀ {ts : List Addr} {ds : List (Str × Str)}, Paired (fun t (d : Str × Str) => H t = some (.tup [.str d.1, .str d.2])) ts ds → RpL K H (ts.map .ref) (ds.map fun d => .tup [.str d.1, .str d.2]) := by
    intro ts ds p
    induction p with
    | nil => exact .nil
    | cons q t ih => exact .cons (.tup (.inl q) (.cons (.str _) (.cons (.str _) .nil))) ih
  exact this h.pa
theorem RdAt.up {C : Addr} {H H' : Hp} {r dx a b : Addr} {rs : List Str} {ts : List Addr} {ds : List (Str × Str)} (h : RdAt C H r dx a b rs ts ds) (k : ∀ c o, H c = some o → H' c = some o) : RdAt C H' r dx a b rs ts ds :=
  ⟨k _ _ h.ob, k _ _ h.ro, k _ _ h.do_, pd_imp h.pa fun _ _ _ q => k _ _ q, h.ab⟩
/-- one more room -/
theorem RdAt.room {C : Addr} {H H' : Hp} {r dx a b : Addr} {rs : List Str} {ts : List Addr} {ds : List (Str × Str)} (h : RdAt C H r dx a b rs ts ds) (k : ∀ c o, H c = some o → H' c = some o) (nm : Str) : RdAt C (upd H' a (.lst ((rs ++ [nm]).map .str))) r dx a b (rs ++ [nm]) ts ds ∧ ∀ c o, H c = some o → c ≠ a → upd H' a (.lst ((rs ++ [nm]).map .str)) c = some o := by
  have h' := h.up k
  refine ⟨⟨?_, upd_same, ?_, pd_imp h'.pa fun t d _ q => ?_, h.ab⟩, fun c o e ne => by rw [upd_ne ne]; exact k c o e⟩
  · rw [upd_ne (ne_of h'.ob h'.ro (by intro z; cases z))]; exact h'.ob
  · rw [upd_ne h.ab.symm]; exact h'.do_
  · rw [upd_ne (ne_of q h'.ro (by intro z; cases z))]; exact q
/-- one more door -/
theorem RdAt.door {C : Addr} {H H' : Hp} {r dx a b t : Addr} {rs : List Str} {ts : List Addr} {ds : List (Str × Str)} (h : RdAt C H r dx a b rs ts ds) (k : ∀ c o, H c = some o → H' c = some o) (one other : Str) (ht : H' t = some (.tup [.str one, .str other])) :
    RdAt C (upd H' b (.lst ((ts ++ [t]).map .ref))) r dx a b rs (ts ++ [t]) (ds ++ [(one, other)]) ∧ ∀ c o, H c = some o → c ≠ b → upd H' b (.lst ((ts ++ [t]).map .ref)) c = some o := by
  have h' := h.up k
  have nt : ∀ {c : Addr} {xs : List V}, H' c = some (.tup xs) → c ≠ b := fun q => ne_of q h'.do_ (by intro z; cases z)
  refine ⟨⟨?_, ?_, upd_same, pd_app (pd_imp h'.pa fun t d _ q => by rw [upd_ne (nt q)]; exact q) (.cons (by rw [upd_ne (nt ht)]; exact ht) .nil), h.ab⟩, fun c o e ne => by rw [upd_ne ne]; exact k c o e⟩
  · rw [upd_ne (ne_of h'.ob h'.do_ (by intro z; cases z))]; exact h'.ob
  · rw [upd_ne h.ab]; exact h'.ro

/-! ### the words of a line -/
theorem sp_tl : tl (" " : Str) = [32] := by decide +kernel
theorem room_tl : tl ("room" : Str) = [114, 111, 111, 109] := by decide +kernel
theorem door_tl : tl ("door" : Str) = [100, 111, 111, 114] := by decide +kernel
theorem sp_kind (x : Str) : ¬ Builtin.Str.strKind x < Builtin.Str.strKind (" " : Str) := kind_ok (by decide +kernel)
theorem nsp {x : Str} (h : nameSigns (tl x) = true) : (32 : Nat) ∉ tl x := fun m => by
  have := List.all_eq_true.mp h 32 m
  simp at this
def roomLine (x : Str) : Str := "room" ++ (" " ++ x)
def doorLine (x y : Str) : Str := "door" ++ (" " ++ (x ++ (" " ++ y)))
theorem split_room {x : Str} (h : nameSigns (tl x) = true) : Txt.split (roomLine x) " " = [("room" : Str), x] := by
  apply map_tl_inj
  rw [split_spl _ _ (by rw [sp_tl]; simp) (sp_kind _)]
  unfold roomLine
  rw [tl_append, tl_append, sp_tl, spl_part1 (s := 32) (S := []) (by rw [room_tl]; decide), spl_last1 (nsp h)]
  rfl
theorem split_door {x y : Str} (h : nameSigns (tl x) = true) (h' : nameSigns (tl y) = true) : Txt.split (doorLine x y) " " = [("door" : Str), x, y] := by
  apply map_tl_inj
  rw [split_spl _ _ (by rw [sp_tl]; simp) (sp_kind _)]
  unfold doorLine
  rw [tl_append, tl_append, tl_append, tl_append, sp_tl, spl_part1 (s := 32) (S := []) (by rw [door_tl]; decide), spl_part1 (s := 32) (S := []) (nsp h), spl_last1 (nsp h')]
  rfl
/-! ### promises over the heap -/
def spRoom (K : PySem.W.Frag) (C : Addr) : Sp := fun vs H Q _ => ∃ (r dx a b : Addr) (rs : List Str) (wv : V) (nm : Str), vs = [.ref r, wv] ∧ RdAt C H r dx a b rs [] [] ∧ Rp K H wv (.lst [.str "room", .str nm]) ∧ OkName nm ∧ (∀ x ∈ rs, OkName x) ∧ rs.length < 16 ∧ nm ∉ rs ∧
  ∀ H', RdAt C H' r dx a b (rs ++ [nm]) [] [] → (∀ c o, H c = some o → c ≠ a → H' c = some o) → Q (.bl true) H'
def spTakes (C : Addr) : Sp := fun vs H Q _ => ∃ (r dx a b : Addr) (rs : List Str) (ts : List Addr) (ds : List (Str × Str)) (line : Str), vs = [.ref r, .str line] ∧ RdAt C H r dx a b rs ts ds ∧ (∀ x ∈ rs, OkName x) ∧ (∀ d ∈ ds, OkName d.1 ∧ OkName d.2) ∧
  ((∃ nm, line = roomLine nm ∧ OkName nm ∧ rs.length < 16 ∧ nm ∉ rs ∧ ts = [] ∧ ds = [] ∧ ∀ H', RdAt C H' r dx a b (rs ++ [nm]) [] [] → (∀ c o, H c = some o → c ≠ a → H' c = some o) → Q (.bl true) H') ∨
   (∃ one other, line = doorLine one other ∧ one ≠ other ∧ one ∈ rs ∧ other ∈ rs ∧ (one, other) ∉ ds ∧ (other, one) ∉ ds ∧ ds.length < 60 ∧ rs.length ≤ 16 ∧ ∀ H' t, H t = none → RdAt C H' r dx a b rs (ts ++ [t]) (ds ++ [(one, other)]) → (∀ c o, H c = some o → c ≠ b → H' c = some o) → Q (.bl true) H'))
end Pu

set_option Elab.async false
set_option linter.all false
set_option maxRecDepth 100000
/-! Pu, plain reasoning: comprehensions whose step leaves nothing behind; data that is good. -/
namespace Pu
open PySem L2 PySem.Spec PyProof.Rows TL

/-- a comprehension, item by item -/
theorem lc_in {items : List D} {g : WG} {tt : WT} {te : WE} {vs : List Nat} {ρ1 : En} {Q : Sl → En → Prop} (f : D → Option D) (hl : items.length ≤ sizeLine)
    (hb : ∀ x ∈ items, ∀ (P : D → En → Prop) (N : En → Prop), (∀ d, f x = some d → P d (wipeE ρ1 vs)) → (f x = none → N (wipeE ρ1 vs)) →
      g (.fz x) (wipeE ρ1 vs) fun ρ2 => tt noEX ρ2 fun b ρ3 => if b = true then te noEX ρ3 fun s ρ4 => s.fr fun d => P d (wipeE ρ4 vs) else N (wipeE ρ3 vs))
    (hq : Q (.ow (.lst (items.filterMap f))) (backE ρ1 (wipeE ρ1 vs) vs)) :
    ∃ W : Nat → List D → En → Prop, W 0 [] (wipeE ρ1 vs) ∧
      (∀ i x acc ρ, items[i]? = some x → W i acc ρ → g (.fz x) ρ fun ρ2 => tt noEX ρ2 fun b ρ3 =>
        if b = true then te noEX ρ3 fun s ρ4 => s.fr fun d => acc.length < sizeLine ∧ W (i + 1) (acc ++ [d]) (wipeE ρ4 vs) else W (i + 1) acc (wipeE ρ3 vs)) ∧
      ∀ acc ρ, W items.length acc ρ → Q (.ow (.lst acc)) (backE ρ1 ρ vs) := by
  refine ⟨fun i acc ρ => ρ = wipeE ρ1 vs ∧ acc = (items.take i).filterMap f, ⟨rfl, rfl⟩, ?_, ?_⟩
  · rintro i x acc ρ e ⟨rfl, rfl⟩
    have hi := (List.getElem?_eq_some_iff.mp e).1
    have ht : items.take (i + 1) = items.take i ++ [x] := by rw [List.take_add_one, e]; rfl
    refine hb x (List.mem_of_getElem? e) (fun d ρ' => ((items.take i).filterMap f).length < sizeLine ∧ ρ' = wipeE ρ1 vs ∧ (items.take i).filterMap f ++ [d] = (items.take (i + 1)).filterMap f) (fun ρ' => ρ' = wipeE ρ1 vs ∧ (items.take i).filterMap f = (items.take (i + 1)).filterMap f) (fun d hd => ⟨?_, rfl, ?_⟩) fun hn => ⟨rfl, ?_⟩
    · have h1 := List.length_filterMap_le f (items.take i)
      have h2 := List.length_take_le i items
      omega
    · rw [ht, List.filterMap_append]
      simp [hd]
    · rw [ht, List.filterMap_append]
      simp [hn]
  · rintro acc ρ ⟨rfl, rfl⟩
    rw [List.take_length]
    exact hq
/-- .. where none is left out -/
theorem lc_map {items : List D} {g : WG} {te : WE} {vs : List Nat} {ρ1 : En} {Q : Sl → En → Prop} (f : D → D) (hl : items.length ≤ sizeLine)
    (hb : ∀ x ∈ items, ∀ P : D → En → Prop, P (f x) (wipeE ρ1 vs) → g (.fz x) (wipeE ρ1 vs) fun ρ2 => te noEX ρ2 fun s ρ4 => s.fr fun d => P d (wipeE ρ4 vs))
    (hq : Q (.ow (.lst (items.map f))) (backE ρ1 (wipeE ρ1 vs) vs)) :
    ∃ W : Nat → List D → En → Prop, W 0 [] (wipeE ρ1 vs) ∧
      (∀ i x acc ρ, items[i]? = some x → W i acc ρ → g (.fz x) ρ fun ρ2 => tYes noEX ρ2 fun b ρ3 =>
        if b = true then te noEX ρ3 fun s ρ4 => s.fr fun d => acc.length < sizeLine ∧ W (i + 1) (acc ++ [d]) (wipeE ρ4 vs) else W (i + 1) acc (wipeE ρ3 vs)) ∧
      ∀ acc ρ, W items.length acc ρ → Q (.ow (.lst acc)) (backE ρ1 ρ vs) := by
  refine lc_in (fun x => some (f x)) hl (fun x m P N h1 _ => ?_) (by rw [show (fun x => some (f x)) = some ∘ f from rfl, List.filterMap_eq_map]; exact hq)
  exact hb x m P (h1 _ rfl)
/-- a loop whose slots are known at each turn -/
theorem for_in {items : List D} {g : WG} {body : WS} {ρ1 : En} {K : EndD} (st : Nat → En) (h0 : ρ1 = st 0)
    (hb : ∀ i x (N : En → Prop), items[i]? = some x → N (st (i + 1)) → g (.fz x) (st i) fun ρ2 => body { K with nx := N, ct := N, bk := K.nx } ρ2) (hq : K.nx (st items.length)) :
    ∃ W : Nat → En → Prop, W 0 ρ1 ∧ (∀ i x ρ, items[i]? = some x → W i ρ → g (.fz x) ρ fun ρ2 => body { K with nx := W (i + 1), ct := W (i + 1), bk := K.nx } ρ2) ∧ ∀ ρ, W items.length ρ → K.nx ρ := by
  refine ⟨fun i ρ => ρ = st i, h0, ?_, fun ρ e => by rw [e]; exact hq⟩
  rintro i x ρ e rfl
  exact hb i x _ e rfl
theorem plains_ints (l : List Int) : plains (l.map D.int) = true := by
  induction l with
  | nil => rfl
  | cons x l ih => exact ih
theorem depth_pys0 {l : List D} (h : ∀ d ∈ l, d.py.depth = 0) : PyData.depthAll (pys l) = 0 := by
  induction l with
  | nil => rfl
  | cons x l ih =>
    show max x.py.depth (PyData.depthAll (pys l)) = 0
    rw [h x (List.mem_cons_self ..), ih fun d m => h d (List.mem_cons_of_mem _ m)]
    rfl
theorem depth_pys {l : List D} {n : Nat} (h : ∀ d ∈ l, d.py.depth ≤ n) : PyData.depthAll (pys l) ≤ n := by
  induction l with
  | nil => exact Nat.zero_le _
  | cons x l ih =>
    show max x.py.depth (PyData.depthAll (pys l)) ≤ n
    exact Nat.max_le.mpr ⟨h x (List.mem_cons_self ..), ih fun d m => h d (List.mem_cons_of_mem _ m)⟩
theorem plains_of {l : List D} (h : ∀ d ∈ l, d.plain = true) : plains l = true := by
  induction l with
  | nil => rfl
  | cons x l ih => exact Bool.and_eq_true_iff.mpr ⟨h x (List.mem_cons_self ..), ih fun d m => h d (List.mem_cons_of_mem _ m)⟩
theorem good_str {x : Str} (h : PyData.strOk x = true) : (D.str x).good = true := by
  unfold D.good
  rw [show (D.str x).plain = PyData.strOk x from rfl, h]
  rfl
theorem good_int (i : Int) : (D.int i).good = true := rfl
theorem good_lst {l : List D} {n : Nat} (h : ∀ d ∈ l, d.plain = true) (hd : ∀ d ∈ l, d.py.depth ≤ n) (hn : n < 64 := by decide) : (D.lst l).good = true := by
  unfold D.good
  rw [show (D.lst l).plain = plains l from rfl, plains_of h]
  have := depth_pys hd
  show decide (PyData.depthAll (pys l) + 1 ≤ 64) = true
  exact decide_eq_true (by omega)
theorem good_tup {l : List D} {n : Nat} (h : ∀ d ∈ l, d.plain = true) (hd : ∀ d ∈ l, d.py.depth ≤ n) (hn : n < 64 := by decide) : (D.tup l).good = true := by
  unfold D.good
  rw [show (D.tup l).plain = plains l from rfl, plains_of h]
  have := depth_pys hd
  show decide (PyData.depthAll (pys l) + 1 ≤ 64) = true
  exact decide_eq_true (by omega)
/-! ### == on data without bools is = -/
mutual
def D.nob : D → Bool
  | .non => true
  | .int _ => true
  | .str _ => true
  | .tup xs => nobs xs
  | .lst xs => nobs xs
  | _ => false
def nobs : List D → Bool
  | [] => true
  | x :: xs => x.nob && nobs xs
end
mutual
theorem beq_iff : ∀ (x y : D), x.nob = true → y.nob = true → (beq x y = true ↔ x = y)
  | .non, y, _, hy => by cases y <;> first | (simp [beq, D.py, PyData.eqv]; done) | (simp [D.nob] at hy; done)
  | .int i, y, _, hy => by cases y <;> first | (simp [beq, D.py, PyData.eqv]; done) | (simp [D.nob] at hy; done)
  | .str i, y, _, hy => by cases y <;> first | (simp [beq, D.py, PyData.eqv]; done) | (simp [D.nob] at hy; done)
  | .tup xs, y, hx, hy => by
    cases y with
    | tup ys =>
      have := beqs_iff xs ys hx hy
      simp only [beq, D.py, PyData.eqv] at this ⊢
      rw [this]
      simp
    | _ => first | (simp [beq, D.py, PyData.eqv]; done) | (simp [D.nob] at hy; done)
  | .lst xs, y, hx, hy => by
    cases y with
    | lst ys =>
      have := beqs_iff xs ys hx hy
      simp only [beq, D.py, PyData.eqv] at this ⊢
      rw [this]
      simp
    | _ => first | (simp [beq, D.py, PyData.eqv]; done) | (simp [D.nob] at hy; done)
  | .bl _, _, hx, _ => by cases hx
  | .dic _ _, _, hx, _ => by cases hx
  | .ins _ _ _, _, hx, _ => by cases hx
  | .scr _, _, hx, _ => by cases hx
  | .fn _, _, hx, _ => by cases hx
  | .ttp _, _, hx, _ => by cases hx
  | .at _ _, _, hx, _ => by cases hx
theorem beqs_iff : ∀ (xs ys : List D), nobs xs = true → nobs ys = true → (PyData.eqvAll (pys xs) (pys ys) = true ↔ xs = ys)
  | [], [], _, _ => by simp [pys, PyData.eqvAll]
  | [], _ :: _, _, _ => by simp [pys, PyData.eqvAll]
  | _ :: _, [], _, _ => by simp [pys, PyData.eqvAll]
  | x :: xs, y :: ys, hx, hy => by
    have hx : x.nob = true ∧ nobs xs = true := Bool.and_eq_true_iff.mp hx
    have hy : y.nob = true ∧ nobs ys = true := Bool.and_eq_true_iff.mp hy
    have h1 := beq_iff x y hx.1 hy.1
    have h2 := beqs_iff xs ys hx.2 hy.2
    simp only [pys, PyData.eqvAll, Bool.and_eq_true]
    unfold beq at h1
    rw [h1, h2]
    simp
end
theorem beq_dec {x y : D} (hx : x.nob = true) (hy : y.nob = true) [Decidable (x = y)] : beq x y = decide (x = y) := by
  have := beq_iff x y hx hy
  by_cases h : x = y
  · rw [decide_eq_true h]; exact this.mpr h
  · rw [decide_eq_false h]
    cases e : beq x y with
    | false => rfl
    | true => exact absurd (this.mp e) h
theorem any_beq {x : D} {ds : List D} (hx : x.nob = true) (hd : nobs ds = true) : (ds.any fun z => beq z x) = true ↔ x ∈ ds := by
  induction ds with
  | nil => simp
  | cons d ds ih =>
    have hd : d.nob = true ∧ nobs ds = true := Bool.and_eq_true_iff.mp hd
    rw [List.any_cons, Bool.or_eq_true, ih hd.2, beq_iff d x hd.1 hx, List.mem_cons]
    constructor
    · rintro (h | h)
      · exact .inl h.symm
      · exact .inr h
    · rintro (h | h)
      · exact .inl h.symm
      · exact .inr h
theorem nobs_strs : ∀ l : List Str, nobs (l.map D.str) = true
  | [] => rfl
  | _ :: l => nobs_strs l
theorem nobs_ints : ∀ l : List Int, nobs (l.map D.int) = true
  | [] => rfl
  | _ :: l => nobs_ints l
theorem mem_strs {x : Str} {l : List Str} : D.str x ∈ l.map D.str ↔ x ∈ l := by
  rw [List.mem_map]
  constructor
  · rintro ⟨y, m, e⟩
    injection e with e
    exact e ▸ m
  · exact fun m => ⟨x, m, rfl⟩
theorem any_strs {x : Str} {l : List Str} : ((l.map D.str).any fun z => beq z (.str x)) = decide (x ∈ l) := by
  have := any_beq (x := .str x) rfl (nobs_strs l)
  rw [mem_strs] at this
  by_cases h : x ∈ l
  · rw [decide_eq_true h]; exact this.mpr h
  · rw [decide_eq_false h]
    cases e : (l.map D.str).any fun z => beq z (.str x) with
    | false => rfl
    | true => exact absurd (this.mp e) h
theorem ok_small {x : Str} (h : ∀ c ∈ tl x, c < 1114112) : PyData.strOk x = true := by
  unfold PyData.strOk
  rw [← Array.all_toList]
  exact List.all_eq_true.mpr fun c m => decide_eq_true (h c m)
theorem OkName.ok {x : Str} (h : OkName x) : PyData.strOk x = true := ok_small fun c m => by
  have := List.all_eq_true.mp h.all c m
  simp at this
  omega
theorem beq_by {x y : D} {p : Prop} [Decidable p] (hx : x.nob = true) (hy : y.nob = true) (h : x = y ↔ p) : beq x y = decide p := by
  have := beq_iff x y hx hy
  by_cases hp : p
  · rw [decide_eq_true hp]; exact this.mpr (h.mpr hp)
  · rw [decide_eq_false hp]
    cases e : beq x y with
    | false => rfl
    | true => exact absurd (h.mp (this.mp e)) hp
@[simp] theorem beq_ss {a b : Str} : beq (.str a) (.str b) = decide (a = b) := beq_by rfl rfl (by simp)
@[simp] theorem beq_ii {a b : Int} : beq (.int a) (.int b) = decide (a = b) := beq_by rfl rfl (by simp)
@[simp] theorem beq_ll : beq (.lst []) (.lst []) = true := rfl
@[simp] theorem beq_pair {a b c d : Str} : beq (.tup [.str a, .str b]) (.tup [.str c, .str d]) = decide (a = c ∧ b = d) := beq_by rfl rfl (by simp)
@[simp] theorem beq_pairI {a b c d : Int} : beq (.tup [.int a, .int b]) (.tup [.int c, .int d]) = decide (a = c ∧ b = d) := beq_by rfl rfl (by simp)
@[simp] theorem f_dr : ¬ (("own_doors" : Str) = "own_rooms") := by decide +kernel
@[simp] theorem f_rd : ¬ (("own_rooms" : Str) = "own_doors") := by decide +kernel
@[simp] theorem f_tr : ¬ (("own_text" : Str) = "own_rooms") := by decide +kernel
@[simp] theorem f_rt : ¬ (("own_rooms" : Str) = "own_text") := by decide +kernel
@[simp] theorem f_td : ¬ (("own_text" : Str) = "own_doors") := by decide +kernel
@[simp] theorem f_dt : ¬ (("own_doors" : Str) = "own_text") := by decide +kernel
end Pu

set_option Elab.async false
set_option linter.all false
set_option maxRecDepth 100000
/-! Pu: a program walked statement by statement; what stands behind is a name for so long. -/
namespace Pu
open PySem L2 PySem.Spec PyProof.Rows TL
theorem seq_i {a b : WS} {K : EndD} {ρ : En} (h : ∀ N : En → Prop, (∀ ρ', b K ρ' → N ρ') → a { K with nx := N } ρ) : wSeq a b K ρ := h _ fun _ h => h
theorem ifS_i {t : WT} {a b : WS} {K : EndD} {ρ : En} (h : ∀ A B : En → Prop, (∀ ρ', a K ρ' → A ρ') → (∀ ρ', b K ρ' → B ρ') → t K.ex ρ fun c ρ1 => if c = true then A ρ1 else B ρ1) : wIfS t a b K ρ := h _ _ (fun _ h => h) fun _ h => h
theorem keeps_i {ms : List Md} {n : Nat} {sp : DSp} {w : WS} (h : ∀ ds Q E, sp ds Q E → ds.length = ms.length → ∀ K : EndD, (∀ ρ, withN (outsE 0 ms ρ) (fun outs => Q (.fz .non) outs) → K.nx ρ) → (∀ s ρ, s.vl (withN (outsE 0 ms ρ) fun outs => Q s outs) → K.rt s ρ) → w K (startE 0 ms ds n)) : keeps ms n sp w :=
  fun ds Q E hl hs => h ds Q E hs hl _ (fun _ h => h) fun _ _ h => h
theorem atN {l : List D} {i : Nat} (h : i < l.length) : atI l (i : Int) = some l[i] := by
  simp [atI, ixN, h]
theorem at0 {a : D} {l : List D} : atI (a :: l) 0 = some a := atN (i := 0) (l := a :: l) (by simp)
theorem at1 {a b : D} {l : List D} : atI (a :: b :: l) 1 = some b := atN (i := 1) (l := a :: b :: l) (by simp)
theorem at2 {a b c : D} {l : List D} : atI (a :: b :: c :: l) 2 = some c := atN (i := 2) (l := a :: b :: c :: l) (by simp)
end Pu

set_option Elab.async false
set_option linter.all false
set_option maxRecDepth 100000
/-! Pu: sets of small numbers as bits. -/
namespace Pu
open PySem L2 PySem.Spec PyProof.Rows TL
def mk : Nat → (Nat → Bool) → Nat
  | 0, _ => 0
  | n + 1, p => mk n p + (if p n = true then 2 ^ n else 0)
theorem mk_lt : ∀ (n : Nat) (p : Nat → Bool), mk n p < 2 ^ n
  | 0, _ => Nat.one_pos
  | n + 1, p => by
    have := mk_lt n p
    unfold mk
    rw [Nat.pow_succ]
    split <;> omega
theorem mk_bit : ∀ (n : Nat) (p : Nat → Bool) (i : Nat), (mk n p).testBit i = (decide (i < n) && p i)
  | 0, p, i => by simp [mk]
  | n + 1, p, i => by
    have ih := mk_bit n p i
    have l := mk_lt n p
    unfold mk
    by_cases hp : p n = true
    · rw [if_pos hp, Nat.add_comm]
      rcases Nat.lt_trichotomy i n with h | h | h
      · rw [Nat.testBit_two_pow_add_gt h, ih]
        simp [h, Nat.lt_succ_of_lt h]
      · subst h
        rw [Nat.testBit_two_pow_add_eq, ih]
        simp [hp]
      · rw [Nat.testBit_lt_two_pow]
        · simp; omega
        · have : 2 ^ (n + 1) ≤ 2 ^ i := Nat.pow_le_pow_right (by decide) h
          rw [Nat.pow_succ] at this
          omega
    · rw [if_neg hp, Nat.add_zero, ih]
      by_cases h : i = n
      · subst h; simp [hp]
      · by_cases h2 : i < n
        · simp [h2, Nat.lt_succ_of_lt h2]
        · have : ¬ i < n + 1 := by omega
          simp [h2, this]
theorem mk_ext {n : Nat} {p q : Nat → Bool} (h : ∀ i, i < n → p i = q i) : mk n p = mk n q := by
  refine Nat.eq_of_testBit_eq fun i => ?_
  rw [mk_bit, mk_bit]
  by_cases hi : i < n
  · rw [h i hi]
  · simp [hi]
theorem mk_zero {n : Nat} {p : Nat → Bool} : mk n p = 0 ↔ ∀ i, i < n → p i = false := by
  constructor
  · intro h i hi
    have := mk_bit n p i
    rw [h] at this
    simpa [hi] using this.symm
  · intro h
    refine Nat.eq_of_testBit_eq fun i => ?_
    rw [mk_bit]
    by_cases hi : i < n
    · rw [h i hi]; simp
    · simp [hi]
theorem mk_or {n : Nat} {p q : Nat → Bool} : mk n p ||| mk n q = mk n fun i => p i || q i := by
  refine Nat.eq_of_testBit_eq fun i => ?_
  rw [Nat.testBit_or, mk_bit, mk_bit, mk_bit]
  cases decide (i < n) <;> rfl
theorem mk_and {n : Nat} {p q : Nat → Bool} : mk n p &&& mk n q = mk n fun i => p i && q i := by
  refine Nat.eq_of_testBit_eq fun i => ?_
  rw [Nat.testBit_and, mk_bit, mk_bit, mk_bit]
  cases decide (i < n) <;> simp
theorem mk_split (p q : Nat → Bool) : ∀ n, mk n (fun i => p i && q i) + mk n (fun i => p i && !q i) = mk n p
  | 0 => rfl
  | n + 1 => by
    have := mk_split p q n
    unfold mk
    cases h1 : p n <;> cases h2 : q n <;> simp [h1, h2] <;> omega
theorem mk_one {n j : Nat} (h : j < n) : mk n (fun i => decide (i = j)) = 2 ^ j := by
  refine Nat.eq_of_testBit_eq fun i => ?_
  rw [mk_bit, Nat.testBit_two_pow]
  by_cases hi : i = j
  · subst hi; simp [h]
  · have : ¬ j = i := fun e => hi e.symm
    simp [hi, this]
theorem mk_all : ∀ n, mk n (fun _ => true) + 1 = 2 ^ n
  | 0 => rfl
  | n + 1 => by
    have := mk_all n
    unfold mk
    rw [Nat.pow_succ]
    simp
    omega
theorem band_nn (a b : Nat) : Builtin.bitAnd (a : Int) (b : Int) = ((a &&& b : Nat) : Int) := by
  unfold Builtin.bitAnd
  rw [decide_eq_true (Int.natCast_nonneg a), decide_eq_true (Int.natCast_nonneg b)]
  simp
theorem bor_nn (a b : Nat) : Builtin.bitOr (a : Int) (b : Int) = ((a ||| b : Nat) : Int) := by
  unfold Builtin.bitOr Builtin.bitAnd
  rw [decide_eq_false (by unfold Builtin.bitNot; omega : ¬ 0 ≤ Builtin.bitNot (a : Int)), decide_eq_false (by unfold Builtin.bitNot; omega : ¬ 0 ≤ Builtin.bitNot (b : Int))]
  have e : ∀ x : Int, Builtin.bitNot (Builtin.bitNot x) = x := fun x => by unfold Builtin.bitNot; omega
  simp [e]
theorem band_mk {n : Nat} {p q : Nat → Bool} : Builtin.bitAnd (mk n p : Int) (Builtin.bitNot (mk n q : Int)) = (mk n (fun i => p i && !q i) : Int) := by
  unfold Builtin.bitAnd
  rw [decide_eq_true (Int.natCast_nonneg _), decide_eq_false (by unfold Builtin.bitNot; omega : ¬ 0 ≤ Builtin.bitNot (mk n q : Int))]
  have e : ∀ x : Int, Builtin.bitNot (Builtin.bitNot x) = x := fun x => by unfold Builtin.bitNot; omega
  have := mk_split p q n
  rw [← mk_and] at this
  simp [e]
  omega
theorem bor_mk {n : Nat} {p q : Nat → Bool} : Builtin.bitOr (mk n p : Int) (mk n q : Int) = (mk n (fun i => p i || q i) : Int) := by
  rw [bor_nn, mk_or]
theorem bit_mk {n : Nat} {p : Nat → Bool} {i : Nat} (h : i < n) : decide (Builtin.bitAnd ((mk n p : Int) / 2 ^ i) 1 = 1) = p i := by
  rw [bitAnd_m1]
  have e := mk_bit n p i
  rw [Nat.testBit_eq_decide_div_mod_eq] at e
  simp only [h, decide_true, Bool.true_and] at e
  rw [← e]
  have : ((mk n p : Int) / 2 ^ i % 2) = ((mk n p / 2 ^ i % 2 : Nat) : Int) := by simp
  rw [this]
  congr 1
  exact propext ⟨fun h => by exact_mod_cast h, fun h => by exact_mod_cast h⟩
end Pu

set_option Elab.async false
set_option linter.all false
set_option maxRecDepth 100000
/-! Pu: plain lists by place; sets that go from place to place. -/
namespace Pu
open PySem L2 PySem.Spec PyProof.Rows TL
theorem numbered_eq : ∀ (ds : List D) (k : Nat), numbered k ds = (List.range ds.length).map fun i => D.tup [.int ((k + i : Nat)), ds[i]?.getD .non]
  | [], _ => rfl
  | d :: ds, k => by
    rw [List.length_cons, List.range_succ_eq_map, List.map_cons, List.map_map]
    show D.tup [.int k, d] :: numbered (k + 1) ds = _
    rw [numbered_eq ds (k + 1)]
    congr 1
    refine List.map_congr_left fun i _ => ?_
    show D.tup [.int ((k + 1 + i : Nat)), ds[i]?.getD .non] = D.tup [.int ((k + (i + 1) : Nat)), (d :: ds)[i + 1]?.getD .non]
    rw [show k + 1 + i = k + (i + 1) by omega]
    rfl
theorem rangeD0 (n : Nat) : rangeD 0 n = (List.range n).map fun (k : Nat) => D.int k := by
  unfold rangeD
  simp
/-- the members of a set, as data -/
def nums (n : Nat) (p : Nat → Bool) : List Nat := (List.range n).filter p
def pick (rs : List Str) (p : Nat → Bool) : List Str := (nums rs.length p).map fun i => rs[i]?.getD default
theorem mem_nums {n : Nat} {p : Nat → Bool} {i : Nat} : i ∈ nums n p ↔ i < n ∧ p i = true := by simp [nums]
theorem nums_ext {n : Nat} {p q : Nat → Bool} (h : ∀ i, i < n → p i = q i) : nums n p = nums n q :=
  List.filter_congr fun i m => h i (List.mem_range.mp m)
theorem pick_ext {rs : List Str} {p q : Nat → Bool} (h : ∀ i, i < rs.length → p i = q i) : pick rs p = pick rs q := by
  unfold pick; rw [nums_ext h]
theorem pick_nil {rs : List Str} {p : Nat → Bool} : pick rs p = [] ↔ ∀ i, i < rs.length → p i = false := by
  unfold pick nums
  simp
theorem nums_pair (n : Nat) (p : Nat → Bool) : (nums n p).Pairwise (· < ·) := (List.pairwise_lt_range (n := n)).filter p
/-- rising lists with the same members -/
theorem rise_eq {α : Type} {r : α → α → Prop} (irr : ∀ a, ¬ r a a) (tr : ∀ a b c, r a b → r b c → r a c) : ∀ {l m : List α}, l.Pairwise r → m.Pairwise r → (∀ x, x ∈ l ↔ x ∈ m) → l = m
  | [], [], _, _, _ => rfl
  | [], b :: m, _, _, h => absurd ((h b).mpr (List.mem_cons_self ..)) (by simp)
  | a :: l, [], _, _, h => absurd ((h a).mp (List.mem_cons_self ..)) (by simp)
  | a :: l, b :: m, hl, hm, h => by
    rw [List.pairwise_cons] at hl hm
    have e : a = b := by
      rcases List.mem_cons.mp ((h a).mp (List.mem_cons_self ..)) with e | h1
      · exact e
      · rcases List.mem_cons.mp ((h b).mpr (List.mem_cons_self ..)) with e | h2
        · exact e.symm
        · exact absurd (tr _ _ _ (hl.1 b h2) (hm.1 a h1)) (irr a)
    subst e
    congr 1
    refine rise_eq irr tr hl.2 hm.2 fun x => ⟨fun mx => ?_, fun mx => ?_⟩
    · rcases List.mem_cons.mp ((h x).mp (List.mem_cons_of_mem _ mx)) with e | h1
      · subst e; exact absurd (hl.1 x mx) (irr x)
      · exact h1
    · rcases List.mem_cons.mp ((h x).mpr (List.mem_cons_of_mem _ mx)) with e | h1
      · subst e; exact absurd (hm.1 x mx) (irr x)
      · exact h1
/-- who is beside any: A; where one comes at night -/
def alone (n : Nat) (A : Nat → Nat → Bool) (i : Nat) : Bool := !(List.range n).any (A i)
def hop (n : Nat) (A : Nat → Nat → Bool) (i j : Nat) : Bool := if alone n A i = true then decide (j = i) else A i j
def come (n : Nat) (A : Nat → Nat → Bool) (p : Nat → Bool) (j : Nat) : Bool := (List.range n).any fun i => p i && hop n A i j
/-- behind k lots, ahead of the next -/
def stT (n : Nat) (A : Nat → Nat → Bool) (lot : Nat → Nat → Bool) (s : Nat → Bool) : Nat → Nat → Bool
  | 0 => s
  | k + 1 => come n A fun i => stT n A lot s k i && !lot k i
def stF (n : Nat) (A : Nat → Nat → Bool) (lot : Nat → Nat → Bool) (s : Nat → Bool) (k i : Nat) : Bool := stT n A lot s k i && !lot k i
theorem stT_succ {n : Nat} {A lot s k} : stT n A lot s (k + 1) = come n A (stF n A lot s k) := rfl
theorem come_or {n : Nat} {A : Nat → Nat → Bool} {α : Type} (l : List α) (g : α → Nat → Bool) (j : Nat) : come n A (fun i => l.any fun a => g a i) j = l.any fun a => come n A (g a) j := by
  rw [Bool.eq_iff_iff]
  simp only [come, List.any_eq_true, Bool.and_eq_true]
  constructor
  · rintro ⟨i, hi, ⟨a, ha, hg⟩, hh⟩
    exact ⟨a, ha, i, hi, hg, hh⟩
  · rintro ⟨a, ha, i, hi, hg, hh⟩
    exact ⟨i, hi, ⟨a, ha, hg⟩, hh⟩
theorem come_ext {n : Nat} {A : Nat → Nat → Bool} {p q : Nat → Bool} (h : ∀ i, i < n → p i = q i) (j : Nat) : come n A p j = come n A q j := by
  rw [Bool.eq_iff_iff]
  simp only [come, List.any_eq_true, Bool.and_eq_true, List.mem_range]
  constructor
  · rintro ⟨i, hi, hp, hh⟩
    exact ⟨i, hi, by rw [← h i hi]; exact hp, hh⟩
  · rintro ⟨i, hi, hp, hh⟩
    exact ⟨i, hi, by rw [h i hi]; exact hp, hh⟩
/-- all starts together -/
theorem stT_starts {n : Nat} {A lot : Nat → Nat → Bool} : ∀ (k j : Nat), j < n → stT n A lot (fun _ => true) k j = (List.range n).any fun s => stT n A lot (fun i => decide (i = s)) k j
  | 0, j, hj => by
    symm
    show ((List.range n).any fun s => decide (j = s)) = true
    rw [List.any_eq_true]
    exact ⟨j, List.mem_range.mpr hj, by simp⟩
  | k + 1, j, hj => by
    show come n A _ j = _
    rw [come_ext (q := fun i => (List.range n).any fun s => stT n A lot (fun i => decide (i = s)) k i && !lot k i) (fun i hi => ?_), come_or]
    · rfl
    · show (stT n A lot (fun _ => true) k i && !lot k i) = _
      rw [stT_starts k i hi]
      cases lot k i <;> simp
theorem stF_starts {n : Nat} {A lot : Nat → Nat → Bool} {k j : Nat} (hj : j < n) : stF n A lot (fun _ => true) k j = (List.range n).any fun s => stF n A lot (fun i => decide (i = s)) k j := by
  unfold stF
  rw [stT_starts k j hj]
  cases lot k j <;> simp
/-- rooms in another sequence -/
theorem alone_map {n : Nat} {A B : Nat → Nat → Bool} {g : Nat → Nat} (hg : ∀ i, i < n → g i < n) (sj : ∀ j, j < n → ∃ i, i < n ∧ g i = j) (hA : ∀ i j, i < n → j < n → B (g i) (g j) = A i j) {i : Nat} (hi : i < n) : alone n B (g i) = alone n A i := by
  unfold alone
  congr 1
  rw [Bool.eq_iff_iff]
  simp only [List.any_eq_true, List.mem_range]
  constructor
  · rintro ⟨j, hj, h⟩
    obtain ⟨j', hj', rfl⟩ := sj j hj
    exact ⟨j', hj', by rw [← hA i j' hi hj']; exact h⟩
  · rintro ⟨j, hj, h⟩
    exact ⟨g j, hg j hj, by rw [hA i j hi hj]; exact h⟩
theorem stT_map {n : Nat} {A B lot lot' : Nat → Nat → Bool} {g : Nat → Nat} (hg : ∀ i, i < n → g i < n) (inj : ∀ i j, i < n → j < n → g i = g j → i = j) (sj : ∀ j, j < n → ∃ i, i < n ∧ g i = j) (hA : ∀ i j, i < n → j < n → B (g i) (g j) = A i j) {m : Nat} (hL : ∀ k i, k < m → i < n → lot' k (g i) = lot k i) :
    ∀ k, k ≤ m → ∀ i, i < n → stT n B lot' (fun _ => true) k (g i) = stT n A lot (fun _ => true) k i
  | 0, _, _, _ => rfl
  | k + 1, hk, i, hi => by
    show come n B _ (g i) = come n A _ i
    rw [Bool.eq_iff_iff]
    simp only [come, List.any_eq_true, List.mem_range, Bool.and_eq_true]
    have hh : ∀ a, a < n → hop n B (g a) (g i) = hop n A a i := fun a ha => by
      unfold hop
      rw [alone_map hg sj hA ha, hA a i ha hi]
      congr 1
      rw [Bool.eq_iff_iff, decide_eq_true_iff, decide_eq_true_iff]
      exact ⟨fun e => inj _ _ hi ha e, fun e => by rw [e]⟩
    have ih := stT_map hg inj sj hA hL k (by omega)
    constructor
    · rintro ⟨b, hb, ⟨h1, h2⟩, h3⟩
      obtain ⟨a, ha, rfl⟩ := sj b hb
      exact ⟨a, ha, ⟨by rw [← ih a ha]; exact h1, by rw [← hL k a (by omega) ha]; exact h2⟩, by rw [← hh a ha]; exact h3⟩
    · rintro ⟨a, ha, ⟨h1, h2⟩, h3⟩
      exact ⟨g a, hg a ha, ⟨by rw [ih a ha]; exact h1, by rw [hL k a (by omega) ha]; exact h2⟩, by rw [hh a ha]; exact h3⟩
end Pu

set_option Elab.async false
set_option linter.all false
set_option maxRecDepth 100000
/-! Pu: comprehensions and loops over lists that are known by a plain list. -/
namespace Pu
open PySem L2 PySem.Spec PyProof.Rows TL
theorem lcA' {α : Type} {wi : WI} {g : WG} {tt : WT} {te : WE} {vs : List Nat} {E : EX} {ρ : En} {Q : Sl → En → Prop} (ρ1 : En) (its : List α) (it : α → D) (f : α → Option D) (hi : ∀ P : List D → En → Prop, P (its.map it) ρ1 → wi E ρ P) (hl : its.length ≤ sizeLine)
    (hb : ∀ x ∈ its, ∀ (P : D → En → Prop) (N : En → Prop), (∀ d, f x = some d → P d (wipeE ρ1 vs)) → (f x = none → N (wipeE ρ1 vs)) →
      g (.fz (it x)) (wipeE ρ1 vs) fun ρ2 => tt noEX ρ2 fun b ρ3 => if b = true then te noEX ρ3 fun s ρ4 => s.fr fun d => P d (wipeE ρ4 vs) else N (wipeE ρ3 vs))
    (hq : Q (.ow (.lst (its.filterMap f))) (backE ρ1 (wipeE ρ1 vs) vs)) : wLc wi g tt te vs E ρ Q := by
  refine hi _ ⟨fun i acc ρ' => ρ' = wipeE ρ1 vs ∧ acc = (its.take i).filterMap f, ⟨rfl, rfl⟩, ?_, ?_⟩
  · rintro i x acc ρ' e ⟨rfl, rfl⟩
    rw [List.getElem?_map] at e
    obtain ⟨y, ey, rfl⟩ := Option.map_eq_some_iff.mp e
    have ht : its.take (i + 1) = its.take i ++ [y] := by rw [List.take_add_one, ey]; rfl
    have hi := (List.getElem?_eq_some_iff.mp ey).1
    refine hb y (List.mem_of_getElem? ey) (fun d ρ' => ((its.take i).filterMap f).length < sizeLine ∧ ρ' = wipeE ρ1 vs ∧ (its.take i).filterMap f ++ [d] = (its.take (i + 1)).filterMap f) (fun ρ' => ρ' = wipeE ρ1 vs ∧ (its.take i).filterMap f = (its.take (i + 1)).filterMap f) (fun d hd => ⟨?_, rfl, ?_⟩) fun hn => ⟨rfl, ?_⟩
    · have h1 := List.length_filterMap_le f (its.take i)
      have h2 := List.length_take_le i its
      omega
    · rw [ht, List.filterMap_append]
      simp [hd]
    · rw [ht, List.filterMap_append]
      simp [hn]
  · rintro acc ρ' ⟨rfl, rfl⟩
    rw [List.length_map, List.take_length]
    exact hq
/-- each item kept, made another -/
theorem lcM' {α : Type} {wi : WI} {g : WG} {te : WE} {vs : List Nat} {E : EX} {ρ : En} {Q : Sl → En → Prop} (ρ1 : En) (its : List α) (it : α → D) (v : α → D) (hi : ∀ P : List D → En → Prop, P (its.map it) ρ1 → wi E ρ P) (hl : its.length ≤ sizeLine)
    (hb : ∀ x ∈ its, ∀ P : D → En → Prop, P (v x) (wipeE ρ1 vs) → g (.fz (it x)) (wipeE ρ1 vs) fun ρ2 => te noEX ρ2 fun s ρ4 => s.fr fun d => P d (wipeE ρ4 vs))
    (hq : Q (.ow (.lst (its.map v))) (backE ρ1 (wipeE ρ1 vs) vs)) : wLc wi g tYes te vs E ρ Q := by
  refine lcA' ρ1 its it (fun x => some (v x)) hi hl (fun x m P N h1 _ => hb x m P (h1 _ rfl)) ?_
  rw [show (fun x => some (v x)) = some ∘ v from rfl, List.filterMap_eq_map]
  exact hq
/-- some items kept, made others -/
theorem lcB' {α : Type} {wi : WI} {g : WG} {tt : WT} {te : WE} {vs : List Nat} {E : EX} {ρ : En} {Q : Sl → En → Prop} (ρ1 : En) (its : List α) (it : α → D) (p : α → Bool) (v : α → D) (hi : ∀ P : List D → En → Prop, P (its.map it) ρ1 → wi E ρ P) (hl : its.length ≤ sizeLine)
    (hb : ∀ x ∈ its, ∀ (P : D → En → Prop) (N : En → Prop), (p x = true → P (v x) (wipeE ρ1 vs)) → (p x = false → N (wipeE ρ1 vs)) →
      g (.fz (it x)) (wipeE ρ1 vs) fun ρ2 => tt noEX ρ2 fun b ρ3 => if b = true then te noEX ρ3 fun s ρ4 => s.fr fun d => P d (wipeE ρ4 vs) else N (wipeE ρ3 vs))
    (hq : Q (.ow (.lst ((its.filter p).map v))) (backE ρ1 (wipeE ρ1 vs) vs)) : wLc wi g tt te vs E ρ Q := by
  refine lcA' ρ1 its it (fun x => if p x = true then some (v x) else none) hi hl (fun x m P N h1 h2 => hb x m P N (fun e => h1 _ (by rw [if_pos e])) fun e => h2 (by simp [e])) ?_
  have e : its.filterMap (fun x => if p x = true then some (v x) else none) = (its.filter p).map v := by
    clear hi hl hb hq
    induction its with
    | nil => rfl
    | cons a l ih => by_cases h : p a = true <;> simp [h, ih]
  rw [e]
  exact hq
/-- a loop whose slots are known at each turn, but for four at most -/
theorem forJ' {α : Type} {wi : WI} {g : WG} {body : WS} {ρ : En} {K : EndD} (ρ1 : En) (its : List α) (it : α → D) (hi : ∀ P : List D → En → Prop, P (its.map it) ρ1 → wi K.ex ρ P) (st : Nat → Sl → Sl → Sl → Sl → En) (h0 : ∃ a b c d, ρ1 = st 0 a b c d)
    (hb : ∀ i (h : i < its.length) a b c d (N : En → Prop), (∀ a b c d, N (st (i + 1) a b c d)) → g (.fz (it its[i])) (st i a b c d) fun ρ2 => body { K with nx := N, ct := N, bk := K.nx } ρ2)
    (hq : ∀ a b c d, K.nx (st its.length a b c d)) : wFor wi g body K ρ := by
  refine hi _ ⟨fun i ρ => ∃ a b c d, ρ = st i a b c d, h0, ?_, ?_⟩
  · rintro i x ρ e ⟨a, b, c, d, rfl⟩
    rw [List.getElem?_map] at e
    obtain ⟨y, ey, rfl⟩ := Option.map_eq_some_iff.mp e
    obtain ⟨h, e⟩ := List.getElem?_eq_some_iff.mp ey
    subst e
    exact hb i h a b c d _ fun a b c d => ⟨a, b, c, d, rfl⟩
  · rintro ρ ⟨a, b, c, d, rfl⟩
    rw [List.length_map]
    exact hq a b c d
/-- a loop by what holds at each turn -/
theorem forW' {α : Type} {wi : WI} {g : WG} {body : WS} {ρ : En} {K : EndD} (ρ1 : En) (its : List α) (it : α → D) (hi : ∀ P : List D → En → Prop, P (its.map it) ρ1 → wi K.ex ρ P) (W : Nat → En → Prop) (h0 : W 0 ρ1)
    (hb : ∀ i (h : i < its.length) ρ (N : En → Prop), W i ρ → (∀ ρ', W (i + 1) ρ' → N ρ') → g (.fz (it its[i])) ρ fun ρ2 => body { K with nx := N, ct := N, bk := K.nx } ρ2)
    (hq : ∀ ρ, W its.length ρ → K.nx ρ) : wFor wi g body K ρ := by
  refine hi _ ⟨W, h0, ?_, ?_⟩
  · rintro i x ρ e w
    rw [List.getElem?_map] at e
    obtain ⟨y, ey, rfl⟩ := Option.map_eq_some_iff.mp e
    obtain ⟨h, e⟩ := List.getElem?_eq_some_iff.mp ey
    subst e
    exact hb i h ρ _ w fun _ h => h
  · intro ρ w
    rw [List.length_map] at w
    exact hq ρ w
/-- a comprehension by what holds at each turn -/
theorem lcW' {α : Type} {wi : WI} {g : WG} {te : WE} {vs : List Nat} {E : EX} {ρ : En} {Q : Sl → En → Prop} (ρ1 : En) (its : List α) (it : α → D) (hi : ∀ P : List D → En → Prop, P (its.map it) ρ1 → wi E ρ P) (W : Nat → List D → En → Prop) (h0 : W 0 [] (wipeE ρ1 vs))
    (hb : ∀ i (h : i < its.length) acc ρ' (P : D → En → Prop), W i acc ρ' → (∀ d ρ4, acc.length < sizeLine → W (i + 1) (acc ++ [d]) (wipeE ρ4 vs) → P d ρ4) → g (.fz (it its[i])) ρ' fun ρ2 => te noEX ρ2 fun s ρ4 => s.fr fun d => P d ρ4)
    (hq : ∀ acc ρ', W its.length acc ρ' → Q (.ow (.lst acc)) (backE ρ1 ρ' vs)) : wLc wi g tYes te vs E ρ Q := by
  refine hi _ ⟨W, h0, ?_, ?_⟩
  · rintro i x acc ρ' e w
    rw [List.getElem?_map] at e
    obtain ⟨y, ey, rfl⟩ := Option.map_eq_some_iff.mp e
    obtain ⟨h, e⟩ := List.getElem?_eq_some_iff.mp ey
    subst e
    exact hb i h acc ρ' (fun d ρ4 => acc.length < sizeLine ∧ W (i + 1) (acc ++ [d]) (wipeE ρ4 vs)) w fun _ _ h1 h2 => ⟨h1, h2⟩
  · intro acc ρ' w
    rw [List.length_map] at w
    exact hq acc ρ' w
theorem lcA {α : Type} {wi : WI} {g : WG} {tt : WT} {te : WE} {vs : List Nat} {E : EX} {ρ : En} {Q : Sl → En → Prop} (its : List α) (it : α → D) (f : α → Option D) (hi : ∀ P : List D → En → Prop, P (its.map it) ρ → wi E ρ P) (hl : its.length ≤ sizeLine)
    (hb : ∀ x ∈ its, ∀ (P : D → En → Prop) (N : En → Prop), (∀ d, f x = some d → P d (wipeE ρ vs)) → (f x = none → N (wipeE ρ vs)) →
      g (.fz (it x)) (wipeE ρ vs) fun ρ2 => tt noEX ρ2 fun b ρ3 => if b = true then te noEX ρ3 fun s ρ4 => s.fr fun d => P d (wipeE ρ4 vs) else N (wipeE ρ3 vs))
    (hq : Q (.ow (.lst (its.filterMap f))) (backE ρ (wipeE ρ vs) vs)) : wLc wi g tt te vs E ρ Q := lcA' ρ its it f hi hl hb hq
theorem lcM {α : Type} {wi : WI} {g : WG} {te : WE} {vs : List Nat} {E : EX} {ρ : En} {Q : Sl → En → Prop} (its : List α) (it : α → D) (v : α → D) (hi : ∀ P : List D → En → Prop, P (its.map it) ρ → wi E ρ P) (hl : its.length ≤ sizeLine)
    (hb : ∀ x ∈ its, ∀ P : D → En → Prop, P (v x) (wipeE ρ vs) → g (.fz (it x)) (wipeE ρ vs) fun ρ2 => te noEX ρ2 fun s ρ4 => s.fr fun d => P d (wipeE ρ4 vs))
    (hq : Q (.ow (.lst (its.map v))) (backE ρ (wipeE ρ vs) vs)) : wLc wi g tYes te vs E ρ Q := lcM' ρ its it v hi hl hb hq
theorem lcB {α : Type} {wi : WI} {g : WG} {tt : WT} {te : WE} {vs : List Nat} {E : EX} {ρ : En} {Q : Sl → En → Prop} (its : List α) (it : α → D) (p : α → Bool) (v : α → D) (hi : ∀ P : List D → En → Prop, P (its.map it) ρ → wi E ρ P) (hl : its.length ≤ sizeLine)
    (hb : ∀ x ∈ its, ∀ (P : D → En → Prop) (N : En → Prop), (p x = true → P (v x) (wipeE ρ vs)) → (p x = false → N (wipeE ρ vs)) →
      g (.fz (it x)) (wipeE ρ vs) fun ρ2 => tt noEX ρ2 fun b ρ3 => if b = true then te noEX ρ3 fun s ρ4 => s.fr fun d => P d (wipeE ρ4 vs) else N (wipeE ρ3 vs))
    (hq : Q (.ow (.lst ((its.filter p).map v))) (backE ρ (wipeE ρ vs) vs)) : wLc wi g tt te vs E ρ Q := lcB' ρ its it p v hi hl hb hq
theorem forJ {α : Type} {wi : WI} {g : WG} {body : WS} {ρ : En} {K : EndD} (its : List α) (it : α → D) (hi : ∀ P : List D → En → Prop, P (its.map it) ρ → wi K.ex ρ P) (st : Nat → Sl → Sl → Sl → Sl → En) (h0 : ∃ a b c d, ρ = st 0 a b c d)
    (hb : ∀ i (h : i < its.length) a b c d (N : En → Prop), (∀ a b c d, N (st (i + 1) a b c d)) → g (.fz (it its[i])) (st i a b c d) fun ρ2 => body { K with nx := N, ct := N, bk := K.nx } ρ2)
    (hq : ∀ a b c d, K.nx (st its.length a b c d)) : wFor wi g body K ρ := forJ' ρ its it hi st h0 hb hq
theorem forW {α : Type} {wi : WI} {g : WG} {body : WS} {ρ : En} {K : EndD} (its : List α) (it : α → D) (hi : ∀ P : List D → En → Prop, P (its.map it) ρ → wi K.ex ρ P) (W : Nat → En → Prop) (h0 : W 0 ρ)
    (hb : ∀ i (h : i < its.length) ρ (N : En → Prop), W i ρ → (∀ ρ', W (i + 1) ρ' → N ρ') → g (.fz (it its[i])) ρ fun ρ2 => body { K with nx := N, ct := N, bk := K.nx } ρ2)
    (hq : ∀ ρ, W its.length ρ → K.nx ρ) : wFor wi g body K ρ := forW' ρ its it hi W h0 hb hq
theorem lcW {α : Type} {wi : WI} {g : WG} {te : WE} {vs : List Nat} {E : EX} {ρ : En} {Q : Sl → En → Prop} (its : List α) (it : α → D) (hi : ∀ P : List D → En → Prop, P (its.map it) ρ → wi E ρ P) (W : Nat → List D → En → Prop) (h0 : W 0 [] (wipeE ρ vs))
    (hb : ∀ i (h : i < its.length) acc ρ' (P : D → En → Prop), W i acc ρ' → (∀ d ρ4, acc.length < sizeLine → W (i + 1) (acc ++ [d]) (wipeE ρ4 vs) → P d ρ4) → g (.fz (it its[i])) ρ' fun ρ2 => te noEX ρ2 fun s ρ4 => s.fr fun d => P d ρ4)
    (hq : ∀ acc ρ', W its.length acc ρ' → Q (.ow (.lst acc)) (backE ρ ρ' vs)) : wLc wi g tYes te vs E ρ Q := lcW' ρ its it hi W h0 hb hq
/-- some items kept, made others, while the slots may change a little -/
theorem lcI {α : Type} {wi : WI} {g : WG} {tt : WT} {te : WE} {vs : List Nat} {E : EX} {ρ : En} {Q : Sl → En → Prop} (ρ1 : En) (its : List α) (it : α → D) (p : α → Bool) (v : α → D) (I : En → Prop) (hi : ∀ P : List D → En → Prop, P (its.map it) ρ1 → wi E ρ P) (hl : its.length ≤ sizeLine) (h0 : I (wipeE ρ1 vs))
    (hb : ∀ x ∈ its, ∀ ρ', I ρ' → ∀ (P : D → En → Prop) (N : En → Prop), (∀ ρ4, p x = true → I (wipeE ρ4 vs) → P (v x) ρ4) → (∀ ρ3, p x = false → I (wipeE ρ3 vs) → N ρ3) →
      g (.fz (it x)) ρ' fun ρ2 => tt noEX ρ2 fun b ρ3 => if b = true then te noEX ρ3 fun s ρ4 => s.fr fun d => P d ρ4 else N ρ3)
    (hq : ∀ ρ', I ρ' → Q (.ow (.lst ((its.filter p).map v))) (backE ρ1 ρ' vs)) : wLc wi g tt te vs E ρ Q := by
  refine hi _ ⟨fun i acc ρ' => I ρ' ∧ acc = ((its.take i).filter p).map v, ⟨h0, rfl⟩, ?_, ?_⟩
  · rintro i x acc ρ' e ⟨hI, rfl⟩
    rw [List.getElem?_map] at e
    obtain ⟨y, ey, rfl⟩ := Option.map_eq_some_iff.mp e
    have ht : its.take (i + 1) = its.take i ++ [y] := by rw [List.take_add_one, ey]; rfl
    have hi := (List.getElem?_eq_some_iff.mp ey).1
    refine hb y (List.mem_of_getElem? ey) ρ' hI (fun d ρ4 => (((its.take i).filter p).map v).length < sizeLine ∧ I (wipeE ρ4 vs) ∧ ((its.take i).filter p).map v ++ [d] = ((its.take (i + 1)).filter p).map v) (fun ρ3 => I (wipeE ρ3 vs) ∧ ((its.take i).filter p).map v = ((its.take (i + 1)).filter p).map v) (fun ρ4 hp h => ⟨?_, h, ?_⟩) fun ρ3 hp h => ⟨h, ?_⟩
    · have h1 := List.length_filter_le p (its.take i)
      have h2 := List.length_take_le i its
      rw [List.length_map]
      omega
    · rw [ht, List.filter_append, List.map_append]
      simp [hp]
    · rw [ht, List.filter_append, List.map_append]
      simp [hp]
  · rintro acc ρ' ⟨hI, rfl⟩
    rw [List.length_map, List.take_length]
    exact hq ρ' hI
theorem wLc_eq {wi : WI} {g : WG} {tt : WT} {te : WE} {vs : List Nat} {E : EX} {ρ : En} {Q : Sl → En → Prop} (h : wi E ρ fun items ρ1 => wLc (fun _ _ P => P items ρ1) g tt te vs E ρ1 Q) : wLc wi g tt te vs E ρ Q := h
theorem wFor_eq {wi : WI} {g : WG} {body : WS} {K : EndD} {ρ : En} (h : wi K.ex ρ fun items ρ1 => wFor (fun _ _ P => P items ρ1) g body K ρ1) : wFor wi g body K ρ := h
theorem blsOf_m {α : Type} (l : List α) (f : α → Bool) : blsOf (l.map fun x => D.bl (f x)) = some (l.map f) := by
  rw [show (l.map fun x => D.bl (f x)) = (l.map f).map D.bl by rw [List.map_map]; rfl, blsOf_map]
theorem intsOf_m {α : Type} (l : List α) (f : α → Int) : intsOf (l.map fun x => D.int (f x)) = some (l.map f) := by
  rw [show (l.map fun x => D.int (f x)) = (l.map f).map D.int by rw [List.map_map]; rfl, intsOf_map]
theorem strsOf_m {α : Type} (l : List α) (f : α → Str) : strsOf (l.map fun x => D.str (f x)) = some (l.map f) := by
  rw [show (l.map fun x => D.str (f x)) = (l.map f).map D.str by rw [List.map_map]; rfl, strsOf_map]
/-! rooms by place -/
def nm (rs : List Str) (i : Nat) : Str := rs[i]?.getD default
theorem nm_at {rs : List Str} {i : Nat} (h : i < rs.length) : rs[i]? = some (nm rs i) := by simp [nm, h]
theorem nm_mem {rs : List Str} {i : Nat} (h : i < rs.length) : nm rs i ∈ rs := List.mem_of_getElem? (nm_at h)
theorem nm_list (rs : List Str) : rs = (List.range rs.length).map (nm rs) := by
  refine List.ext_getElem? fun i => ?_
  by_cases h : i < rs.length
  · rw [nm_at h]; simp [h]
  · rw [List.getElem?_eq_none (by omega), List.getElem?_eq_none (by simp; omega)]
theorem nm_inj {rs : List Str} (nd : rs.Nodup) {i j : Nat} (hi : i < rs.length) (hj : j < rs.length) (e : nm rs i = nm rs j) : i = j := by
  have h1 := nm_at hi
  have h2 := nm_at hj
  rw [e, ← h2] at h1
  exact (List.getElem?_inj hi nd).mp h1
theorem pick_eq (rs : List Str) (p : Nat → Bool) : pick rs p = (nums rs.length p).map (nm rs) := rfl
theorem mem_pick {rs : List Str} (nd : rs.Nodup) {p : Nat → Bool} {i : Nat} (hi : i < rs.length) : nm rs i ∈ pick rs p ↔ p i = true := by
  rw [pick_eq, List.mem_map]
  constructor
  · rintro ⟨j, m, e⟩
    obtain ⟨hj, hp⟩ := mem_nums.mp m
    rw [← nm_inj nd hj hi e]; exact hp
  · exact fun h => ⟨i, mem_nums.mpr ⟨hi, h⟩, rfl⟩
theorem pick_sub {rs : List Str} {p : Nat → Bool} {x : Str} (h : x ∈ pick rs p) : x ∈ rs := by
  obtain ⟨j, m, e⟩ := List.mem_map.mp h
  exact e ▸ nm_mem (mem_nums.mp m).1
theorem pick_len (rs : List Str) (p : Nat → Bool) : (pick rs p).length ≤ rs.length := by
  rw [pick_eq, List.length_map]
  have := List.length_filter_le p (List.range rs.length)
  rw [List.length_range] at this
  exact this
theorem pick_filter {rs : List Str} (nd : rs.Nodup) (p : Nat → Bool) : rs.filter (fun r => decide (r ∈ pick rs p)) = pick rs p := by
  conv => lhs; rw [nm_list rs]
  rw [List.filter_map]
  show List.map (nm rs) _ = List.map (nm rs) _
  congr 1
  rw [show (List.map (nm rs) (List.range rs.length)) = rs from (nm_list rs).symm]
  refine List.filter_congr fun i m => ?_
  have := mem_pick (p := p) nd (List.mem_range.mp m)
  simp only [Function.comp]
  rw [Bool.eq_iff_iff, decide_eq_true_iff]
  exact this
/-- some rooms, as they are in the house -/
theorem filter_pick {rs : List Str} (q : Str → Bool) : rs.filter q = pick rs fun i => q (nm rs i) := by
  conv => lhs; rw [nm_list rs]
  rw [List.filter_map]
  rfl
theorem sum_mk (p : Nat → Bool) : ∀ n, (((List.range n).filter p).map fun i => (2 : Int) ^ i).sum = (mk n p : Int)
  | 0 => rfl
  | n + 1 => by
    rw [List.range_succ, List.filter_append, List.map_append, List.sum_append, sum_mk p n]
    rw [show mk (n + 1) p = mk n p + (if p n = true then 2 ^ n else 0) from rfl]
    by_cases h : p n = true <;> simp [h]
end Pu

set_option Elab.async false
set_option linter.all false
set_option maxRecDepth 100000
/-! Pu: the end, for a def that is entered where no guard stands. -/
namespace Pu
open PySem L2 PySem.Spec PyProof.Rows TL
/-- the law called, behind the module's top -/
theorem law_go {P : Program} {w : World} {K : PySem.W.Frag} {mg mb : Str → Option Value} {k : Nat} {fa p : Addr} {fd : FuncData} {x : Str} {sp : Sp} {t : Shared} {us : List Value} {zs : List Int}
    (inK : K.In t.heap) (nsg : t.heap.Ns mainGlobals mg) (nsb : t.heap.Ns builtinsNs mb) (nb : ∀ y : Str, y ≠ "__name__" → mb y = bootBuiltins y) (nl : t.heap.NoLimit) (ng : t.gens = #[])
    (atp : t.heap.get? p = some { cls := .type "list", data := .seq us.toArray }) (are : IntsAre us zs) (few : zs.length ≤ sizeLine) (room : Room k callerA)
    (G : ∀ b : Heap, K.In b → b.Ns mainGlobals mg → FnG P w K mg b k fa fd [x] sp) (bd : ∀ (s : Shared) (u : Value), BindsTo s fd ⟨[u], []⟩ [(x, u)])
    (good : ∀ H : Hp, Only H → SqL K H p (zs.map V.int) → sp [.ref p] H (fun v _ => v = .bl true) fun _ _ _ => False) :
    codeAny (model P w) callerA (.call (.ref fa) ⟨[.ref p], []⟩) (fun r s' => r = .ok (.ret (.bool true)) ∧ OldK t.heap s'.heap ∧ s'.os = t.os ∧ AllBare s'.gens) t := by
  have rel := vals_ints are
  have hlen := are.length
  have main : ∀ H : Hp, Only H → SqL K H p (zs.map V.int) → HOk P w H t.heap → (∀ c, H c ≠ none → c = p) → (H p ≠ none → K.lookup p = none) →
      codeAny (model P w) callerA (.call (.ref fa) ⟨[.ref p], []⟩) (fun r s' => r = .ok (.ret (.bool true)) ∧ OldK t.heap s'.heap ∧ s'.os = t.os ∧ AllBare s'.gens) t := by
    intro H only seq ho one notK
    have hid : ∀ {c : Addr} {o : Obj}, t.heap.get? c = some o → H c = none → (hidT t.heap H).get? c = some o := fun e n => hidT_get e n
    have notD : ∀ {c : Addr} {o : Obj} {es : Array DictEntry} {ep : Nat}, t.heap.get? c = some o → o.data = .dict es ep → H c = none := fun {c o es ep} e d => by
      cases hc : H c with
      | none => rfl
      | some z =>
        obtain rfl : c = p := one c (by rw [hc]; simp)
        rw [atp] at e
        cases e
        cases (show Data.seq us.toArray _ = Data.dict es ep from d)
    have ns : ∀ {c : Addr} {m : Str → Option Value}, t.heap.Ns c m → (hidT t.heap H).Ns c m := fun {c m} ⟨o, es, ep, e, d, r⟩ => ⟨o, es, ep, hid e (notD e d), d, r⟩
    have inB : K.In (hidT t.heap H) := fun c o e => hid (inK c o e) (by
      cases hc : H c with
      | none => rfl
      | some z =>
        obtain rfl : c = p := one c (by rw [hc]; simp)
        rw [notK (by rw [hc]; simp)] at e
        cases e)
    have md : Mod K mg (hidT t.heap H) := ⟨inB, ns nsg, ⟨mb, ns nsb, nb⟩, let ⟨mc, e1, e2⟩ := nl; ⟨mc, ns e1, e2⟩⟩
    have env : Env0 P w K mg (hidT t.heap H) callerA [] t H := ⟨rfl, md, fun c o e => of_hidT e, Nat.le_of_eq (hidT_size _ _), trivial, fun c mc => absurd (show c ∈ ([] : List Addr) from mc) (by simp), ho, .of_eq ng⟩
    refine codeAny_mono ((G _ inB (ns nsg)).go callerA [] t H ⟨[.ref p], []⟩ [.ref p] [.ref p] _ _ room rfl env (bd t (.ref p)) (.cons rfl .nil) (good H only seq)) fun r s' q => ?_
    cases r with
    | error e =>
      obtain ⟨_, _, _, _, _, _, _, _, _, _, _, _, no⟩ := (show L2.CX P w [] H t (fun _ _ _ => False) e s' from q)
      exact no.elim
    | ok fl =>
      cases fl with
      | ret u =>
        obtain ⟨v, H', eos, bare, un, ho', rv, hv⟩ := q
        obtain rfl : v = .bl true := hv
        obtain rfl : u = Value.bool true := rv
        refine ⟨rfl, OldK.of_keep fun c o e => ?_, eos, bare⟩
        cases hc : H c with
        | none => exact un.keep c o e hc (by intro z; exact absurd (show c ∈ ([] : List Addr) from z) (by simp)) (by simp)
        | some z =>
          rcases only c with n | ⟨ob, xs, n⟩
          · rw [hc] at n; cases n
          · obtain ⟨e1, _⟩ := ho c _ n
            obtain ⟨e2, _⟩ := ho' c _ (un.frzs c ob _ n)
            rw [e] at e1
            cases e1
            exact e2
      | _ => exact False.elim q
  cases hp : K.lookup p with
  | some o =>
    have e := inK p o hp
    rw [atp] at e
    cases e
    exact main (fun _ => none) (fun _ => .inl rfl) (.inr ⟨_, us.toArray, _, hp, rfl, rfl, rfl, by rw [List.size_toArray, hlen]; exact few, by simpa using rel⟩) (fun c u z => by cases (show (none : Option HO) = some u from z)) (fun c z => absurd rfl z) fun z => absurd rfl z
  | none =>
    have at1 : ∀ c, (if c = p then some (HO.frz { cls := .type "list", data := .seq us.toArray } (.lst (zs.map V.int))) else none) ≠ none → c = p := fun c n => by
      by_cases hc : c = p
      · exact hc
      · exact absurd (if_neg hc) n
    refine main (fun c => if c = p then some (.frz { cls := .type "list", data := .seq us.toArray } (.lst (zs.map V.int))) else none) (fun c => ?_) (.inl (.inr ⟨{ cls := .type "list", data := .seq us.toArray }, if_pos rfl⟩)) (fun c u z => ?_) at1 fun _ => hp
    · by_cases hc : c = p
      · exact .inr ⟨_, _, if_pos hc⟩
      · exact .inl (if_neg hc)
    · obtain rfl : c = p := at1 c (fun n => by rw [show (if c = p then some (HO.frz { cls := .type "list", data := .seq us.toArray } (.lst (zs.map V.int))) else none) = some u from z] at n; cases n)
      cases (if_pos rfl).symm.trans z
      exact ⟨atp, by rw [List.length_map]; exact few, us, _, rel, atp⟩
/-- the goal behind the head -/
theorem walk_go {l : PySem.W.OpenLaw} {n k : Nat} {q : Program} {loose : List Str} {XP : (Str → Option Value) → Heap → Prop} {YP : World → Heap → Prop} {d : DefRec} {K : Params → PySem.W.Frag} {x : Str} {ms : DSp}
    (hm : l.most = some n) (hz : n ≤ sizeLine) (hd : d.params.defaults = []) (room : Room k callerA) (hY : ∀ (w : World) (h : Heap), YP w h → (K w.params).In h)
    (F : ∀ (w : World) (mg : Str → Option Value) (fa : Addr) (h : Heap), (K w.params).In h → h.Ns mainGlobals mg → mg d.name = some (.ref fa) →
      ∃ fd : FuncData, (∀ (s : Shared) (u : Value), BindsTo s fd ⟨[u], []⟩ [(x, u)]) ∧ ∀ b : Heap, (K w.params).In b → b.Ns mainGlobals mg → FnG l.prog w (K w.params) mg b k fa fd [x] (spL (K w.params) [.fz] ms))
    (hs : ∀ zs : List Int, zs.length ≤ n → ∀ Q E, Q (.fz (.bl true)) [.non] → ms [.scr zs] Q E) :
    PySem.W.WalkO q loose XP YP l.row.toRowW d [] (fun f vs => PySem.call f vs) := by
  refine Att.attach_call hm hd fun w s₀ t mg mb fa o pm cd doc p us zs G Y ho hdat hcd hmg atp are few ng => ?_
  have inK := hY w _ Y
  obtain ⟨fd, bd, go⟩ := F w mg fa _ inK G.T.g hmg
  refine law_go inK G.T.g G.T.b G.T.builtins G.T.nolimit ng atp are (Nat.le_trans few hz) room go bd fun H only seq => ?_
  refine ⟨H, [.scr zs], [], fun s _ => s = .fz (.bl true), fun _ _ _ => False, fun _ _ e => e, .fz (.scr seq) .nil, List.nodup_nil, hs zs few _ _ rfl, fun s _ e v H' Z' _ r => ?_, fun _ _ _ e => e.elim⟩
  subst e
  cases (show Rp (K w.params) Z' v (.bl true) from r)
  rfl
end Pu

set_option Elab.async false
set_option linter.all false
set_option maxRecDepth 100000
/-! Pu, more: is None, d.get(k), (*t, x), xs[::-1]. -/
namespace Pu
open PySem L2 PySem.Spec PyProof.Rows
@[simp] def isN : D → Bool
  | .non => true
  | _ => false
section
variable {F : Fm} {e a b : Expr} {es : List Expr} {pos p : Pos} {x : Str} {id T : String}
theorem rp_isN {K : PySem.W.Frag} {Z : Hp} {v : V} {d : D} (h : Rp K Z v d) : decide (v = .non) = isN d := by
  cases h <;> simp
theorem rd_isN {B : Bs} {σ : L2.St} {H : Hp} {ρ : En} {Z : Hp} {v : V} {d : D} (S : St1 F.K B σ H ρ Z []) (h : Rd1 F.K Z H v d) : decide (v = .non) = isN d := rp_isN (rd1_le S h)
@[simp] def kIs : K2 := fun x y Q => match y with
  | .non => Q (.fz (.bl (isN x)))
  | _ => False
@[simp] def kIsNot : K2 := fun x y Q => match y with
  | .non => Q (.fz (.bl (!isN x)))
  | _ => False
theorem od_is : OpD F (compareOp .Is) kIs := ⟨_, fun _ => op_isN, fun B σ H ρ Z x y dx dy Q Q' S rx ry hk q => by
  cases dy with
  | non =>
    refine ⟨rd_non ry, ?_⟩
    rw [rd_isN S rx]
    exact q _ _ _ _ (S.have (.bl _)) hk
  | _ => exact (show False from hk).elim⟩
theorem od_isNot : OpD F (compareOp .IsNot) kIsNot := ⟨_, fun _ => op_notN, fun B σ H ρ Z x y dx dy Q Q' S rx ry hk q => by
  cases dy with
  | non =>
    refine ⟨rd_non ry, ?_⟩
    rw [rd_isN S rx]
    exact q _ _ _ _ (S.have (.bl _)) hk
  | _ => exact (show False from hk).elim⟩
/-- d.get(k) -/
@[simp] def kGet (x y : D) (Q : Sl → Prop) : Prop := match x with
  | .dic ks xs => withO (keyD y) fun k => Q (.fz ((lookD ks xs k).getD .non))
  | _ => False
@[simp] def wGet (o a : WR) : WE := fun E ρ Q => o E ρ fun r ρ1 => with1 (look ρ1 r) fun d0 => tyD "dict" d0 ∧ a E ρ1 fun r2 ρ2 => with2 (look ρ2 r) (look ρ2 r2) fun x y => kGet x y fun s => Q s ρ2
theorem re_get {wo wa : WR} {apos cpos : Pos} {o : Expr} (ho : RR F o wo) (ha : RR F e wa)
    (hbase : ∀ i, attributeBase o "get" (F.X i).env (eval o (F.X i).env) = eval o (F.X i).env := by intro _; rfl)
    (hfew : ∀ i, ((backTo cpos (starEach [e] (F.X i).env)).all (fun x => !x.1) && (backToKw cpos (keywordEach [] (F.X i).env)).all (fun x => x.1.isSome)
      && decide (([e] : List Expr).length + ([] : List Keyword).length + (if ([] : List Keyword).isEmpty then 0 else 1) < 30)) = true := by intro _; rfl)
    (hline : (apos.endLine == cpos.line) = true := by rfl) (ht : ∀ i, backTo cpos (starEach [e] (F.X i).env) = [(false, eval e (F.X i).env)] := by intro _; rfl) :
    RE F (.Call (.Attribute o "get" apos) [e] [] cpos) (wGet wo wa) := by
  obtain ⟨to, o1, o2⟩ := ho
  obtain ⟨ta, a1, a2⟩ := ha
  refine ⟨_, fun i => pe_dget1 (un1 (F.un i)) (o1 i) (a1 i) ⟨hbase i, hfew i, hline, ht i⟩, LE.of fun B σ H ρ Z Q Q' E S X hw q => o2 B σ H ρ Z _ _ E S X hw fun x rr H1 ρ1 Z1 S1 le1 ok1 hw => ?_⟩
  obtain ⟨d0, e0, ht0, hw⟩ := with1_of hw
  cases d0 with
  | dic ks0 xs0 =>
    obtain ⟨p, kvs, rfl, hp, _⟩ := rd_dic S1 (S1.read ok1 e0)
    refine ⟨p, rfl, .inl ⟨kvs, .inl hp⟩, a2 B σ H1 ρ1 Z1 _ _ E S1 X hw fun y ry H2 ρ2 Z2 S2 le2 ok2 hw => ?_⟩
    obtain ⟨dx, dy, e1, e2, hk⟩ := with2_of hw
    have rx := S2.read (ok1.le le2) e1
    have ryy := S2.read ok2 e2
    cases dx with
    | dic ks xs =>
      obtain ⟨k, ek, hq⟩ := withO_of (show withO (keyD dy) (fun k => Q' (.fz ((lookD ks xs k).getD .non)) ρ2) from hk)
      obtain ⟨p2, kvs2, ep, hp2, eks, rl⟩ := rd_dic S2 rx
      cases ep
      rw [keyD_v ryy ek]
      refine ⟨_, DGet.k hp2, ?_⟩
      have lv := look_val k rl
      rw [eks] at lv
      cases el : lookD ks xs k with
      | none =>
        rw [el] at lv hq
        rw [show valV kvs2 k = none from lv]
        exact q _ _ _ _ _ (S2.have .non) hq
      | some d =>
        rw [el] at lv hq
        obtain ⟨v, h1, h2⟩ := (show ∃ v, valV kvs2 k = some v ∧ Rp F.K Z2 v d from lv)
        rw [h1]
        exact q _ _ _ _ _ (S2.have h2) hq
    | _ => exact (show False from hk).elim
  | _ => simp at ht0
/-- (*t, x) -/
@[simp] def vsS (a : WE) (b : WVs) : WVs := fun E ρ Q => a E ρ fun s ρ1 => s.fr fun d => withO (seqD d) fun xs => b E ρ1 fun ds ρ2 => Q (xs ++ ds) ρ2
theorem rvs_star {p1 : Pos} {wa : WE} {wb : WVs} (ha : RE F e wa) (hb : RVs F es wb) (hs : ∀ i, starEach (.Starred e p1 :: es) (F.X i).env = (true, eval e (F.X i).env) :: starEach es (F.X i).env := by intro _; rfl) : RVs F (.Starred e p1 :: es) (vsS wa wb) := by
  obtain ⟨ta, a1, a2⟩ := ha
  obtain ⟨tb, b1, b2⟩ := hb
  refine ⟨StX.tStar F.K ta tb, fun i => by rw [← F.hK i]; exact StX.pa_star (a1 i) (b1 i) (hs i), fun B σ H ρ Z Q Q' E S X hw q => a2 B σ H ρ Z _ _ E S X hw fun x s H1 ρ1 Z1 S1 le1 hw => ?_⟩
  obtain ⟨d, hs, hw⟩ := fr_of hw
  obtain ⟨xs, es', hw⟩ := withO_of hw
  obtain ⟨Z1', le1', S1', r⟩ := S1.thaw1 hs
  obtain ⟨p, vs, rfl, hseq, rl⟩ := rd_seq S1' (.inl r) es'
  refine ⟨p, vs, rfl, hseq.symm, b2 B σ H1 ρ1 Z1' _ _ E S1' X hw fun ys ds H2 ρ2 Z2 S2 le2 o2 hw => ?_⟩
  exact q _ _ H2 ρ2 Z2 S2 (le1.trans' (le1'.trans' le2)) ((RpL.le le2 _ _ rl).app o2) hw
/-- xs[::-1], a list -/
@[simp] def wRev (a : WR) : WE := fun E ρ Q => a E ρ fun r ρ1 => with1 (look ρ1 r) fun d => withO (lstD d) fun xs => Q (.ow (.lst xs.reverse)) ρ1
theorem RpL.rev {K : PySem.W.Frag} {Z : Hp} : ∀ {vs : List V} {ds : List D}, RpL K Z vs ds → RpL K Z vs.reverse ds.reverse
  | _, _, .nil => .nil
  | _, _, .cons h t => by rw [List.reverse_cons, List.reverse_cons]; exact t.rev.app (.cons h .nil)
theorem re_rev {k : Nat} {p1 p2 p3 : Pos} {wa : WR} (ha : RR F a wa) : RE F (.Subscript a (.Slice none none (some (.UnaryOp .USub (.Constant (.int 1) k p1) p2)) p3) pos) (wRev wa) := by
  obtain ⟨ta, a1, a2⟩ := ha
  refine ⟨tRevL F.K ta, fun i => by rw [← F.hK i]; exact pe_revL (a1 i), LE.of fun B σ H ρ Z Q Q' E S X hw q => a2 B σ H ρ Z _ _ E S X hw fun x r H1 ρ1 Z1 S1 le1 o1 hw => ?_⟩
  obtain ⟨d, e1, hw⟩ := with1_of hw
  obtain ⟨xs, e2, hk⟩ := withO_of hw
  obtain ⟨p, vs, rfl, hs, rl⟩ := rd_lstD S1 (S1.read o1 e1) e2
  exact ⟨p, vs, rfl, hs, fun l hl => q _ _ _ _ _ (S1.alloc1 (o := .lst _) (d := .lst _) hl rl.rev) hk⟩
end
end Pu

set_option Elab.async false
set_option linter.all false
set_option maxRecDepth 100000
/-! Pu, more: t[::-1], a tuple. -/
namespace PuR2
open PySem PySem.Spec PyProof.Rows
variable {prog : Program} {w : World} {A : Around} {E : Value → Shared → Prop} {s : Shared}
theorem adj_back (n : Nat) : Builtin.Slice.sliceAdjust none none (-1) (n : Int) = ((n : Int) - 1, -1) := by
  unfold Builtin.Slice.sliceAdjust
  simp
theorem places_back (n : Nat) : Builtin.Slice.slicePlaces ((n : Int) - 1) (-1) (-1) = n := by
  unfold Builtin.Slice.slicePlaces
  simp
  split <;> omega
theorem fm_some {α β : Type} {f : α → Option β} {g : α → β} : ∀ {l : List α}, (∀ m ∈ l, f m = some (g m)) → l.filterMap f = l.map g
  | [], _ => rfl
  | a :: l, h => by
    rw [List.filterMap_cons, h a (List.mem_cons_self ..), List.map_cons]
    exact congrArg (g a :: ·) (fm_some fun m hm => h m (List.mem_cons_of_mem _ hm))
theorem pick_back (xs : Array Value) : ((List.range xs.size).filterMap fun (m : Nat) => xs[(((xs.size : Int) - 1) + (m : Int) * (-1)).toNat]?).toArray = xs.toList.reverse.toArray := by
  congr 1
  have e : ∀ m ∈ List.range xs.size, xs[(((xs.size : Int) - 1) + (m : Int) * (-1)).toNat]? = some (xs.toList.reverse[m]?.getD .none) := fun m hm => by
    have hm := List.mem_range.mp hm
    have ei : (((xs.size : Int) - 1) + (m : Int) * (-1)).toNat = xs.size - 1 - m := by omega
    rw [ei, List.getElem?_reverse (by simpa using hm)]
    simp
    rw [Array.getElem?_eq_getElem (by omega)]
    rfl
  rw [fm_some e]
  refine List.ext_getElem? fun k => ?_
  rw [List.getElem?_map]
  by_cases hk : k < xs.size
  · rw [List.getElem?_range hk]
    have h2 : k < xs.toList.reverse.length := by simpa using hk
    show some (xs.toList.reverse[k]?.getD Value.none) = _
    rw [List.getElem?_eq_getElem h2]
    rfl
  · rw [List.getElem?_eq_none (by simpa using hk), List.getElem?_eq_none (by simp; omega)]
    rfl
theorem applied_back {sl : Addr} {st : Value} {n : Nat} {Q : Int × Int × Nat → Shared → Prop} (at_ : s.heap.IsSliceOf sl .none .none st) (ps : IsPart st (some (-1))) (h : Q ((n : Int) - 1, -1, n) s) :
    wpAny (model prog w) A (Builtin.Slice.sliceApplied (.ref sl) (pure (n : Int))) Q E s := by
  obtain ⟨o, ho, _, hd⟩ := id at_
  unfold Builtin.Slice.sliceApplied Builtin.Slice.sliceFields
  refine wpAny_bind (wpAny_bind (wpAny_field ho hd (x := .none) rfl (wpAny_bind (wpAny_field ho hd (x := .none) rfl (wpAny_bind (wpAny_field ho hd (x := st) rfl (wpAny_pure ?_)))))))
  cases ps with
  | int _ t =>
    refine wpAny_bind (slicePart_int ?_)
    show wpAny _ _ (if ((-1 : Int) == 0) = true then _ else _) _ _ s
    rw [if_neg (by decide)]
    refine wpAny_bind (slicePart_none (wpAny_bind (slicePart_none (wpAny_bind (wpAny_pure ?_)))))
    show wpAny _ _ (match Builtin.Slice.sliceAdjust none none (-1) (n : Int) with | (lo, hi) => pure (lo, (-1 : Int), Builtin.Slice.slicePlaces lo hi (-1))) _ _ s
    rw [adj_back]
    show wpAny _ _ (pure ((n : Int) - 1, (-1 : Int), Builtin.Slice.slicePlaces ((n : Int) - 1) (-1) (-1))) _ _ s
    rw [places_back]
    exact wpAny_pure h
/-- t[::-1] -/
theorem tup_back {t sl : Addr} {its : Array Value} {st : Value} {Q : Value → Shared → Prop} (ht : IsTup s.heap t its) (at_ : s.heap.IsSliceOf sl .none .none st) (ps : IsPart st (some (-1)))
    (h : Q (.ref s.heap.objs.size) { s with heap := s.heap.push { cls := .type "tuple", data := .seq its.toList.reverse.toArray } }) (sz : its.size ≤ sizeLine) : wpAny (model prog w) A (getItem (.ref t) (.ref sl)) Q E s := by
  have ok : sizeOk (.seq its.toList.reverse.toArray) := by
    show its.toList.reverse.toArray.size ≤ sizeLine
    simpa using sz
  obtain ⟨o, ho, hc, _⟩ := id at_
  have ty : s.TypeIs (.ref sl) "slice" := ⟨o, ho, hc⟩
  unfold getItem
  try with_reducible refine wpAny_holding ?_
  first | (refine wpAny_bind (wpAny_pure ?_); refine wpAny_bind (wpAny_sequenceKey ht.typeIs (by decide) ?_)) | refine wpAny_bind (wpAny_sequenceKey ht.typeIs (by decide) ?_)
  refine wpAny_bind (wpAny_callSpecial?_slot (name := Str.ofString "__getitem__") ht.typeIs PyProof.Rows.slot_tuple_getitem (wpAny_call_entry PyProof.Rows.slot_tuple_getitem ht.typeIs entry_tuple_getitem ?_ (args_tuple_getitem _ _)))
  refine wpAny_bind (m := Builtin.Tuple.tupleItemsOf (.ref t)) (tupleItemsOf_ ht (wpAny_bind (wpAny_typeOf ty ?_)))
  rw [if_pos (by decide)]
  refine wpAny_bind (applied_back at_ ps ?_)
  show wpAny _ _ (if (((its.size : Int) - 1) == 0 && (-1 : Int) == 1 && its.size == its.size) = true then _ else _) _ _ s
  rw [if_neg (by simp), pick_back]
  first
    | exact wpAny_bind (m := Builtin.Tuple.tupleExact _) (wpAny_newObj_type (wpAny_pure ⟨_, rfl, wpAny_pure h⟩) ok)
    | exact wpAny_bind (m := Builtin.Tuple.tupleExact _) (wpAny_newObj_type (wpAny_bind (wpAny_pure (wpAny_pure ⟨_, rfl, wpAny_pure h⟩))) ok)
    | exact wpAny_bind (wpAny_bind (m := Builtin.Tuple.tupleExact _) (wpAny_newObj_type (wpAny_pure (wpAny_pure ⟨_, rfl, wpAny_pure h⟩)) ok))
    | exact wpAny_bind (wpAny_bind (m := Builtin.Tuple.tupleExact _) (wpAny_newObj_type (wpAny_pure ⟨_, rfl, wpAny_pure h⟩) ok))
end PuR2
namespace Pu
open PySem L2 PySem.Spec PyProof.Rows
section
variable {F : Fm} {a : Expr} {pos : Pos}
/-- x[::-1], of a list or a tuple -/
def tBack (K : PySem.W.Frag) (te : TE) : TE := fun σ H Q => te σ H fun x H1 => ∃ p xs, x = .ref p ∧ ((SqL K H1 p xs ∧ ∀ q, H1 q = none → Q (.ref q) (upd H1 q (.lst xs.reverse))) ∨ (SqT K H1 p xs ∧ ∀ q, H1 q = none → Q (.ref q) (upd H1 q (.tup xs.reverse))))
theorem pe_back {X : Cx} {e : Expr} {te : TE} {k : Nat} {p1 p2 p3 : Pos} (he : PE X e te) : PE X (.Subscript e (.Slice none none (some (.UnaryOp .USub (.Constant (.int 1) k p1) p2)) p3) pos) (tBack X.K te) := by
  refine ⟨fun pins s σ H Q I h => Subscript_ (thn (he.run pins s σ H _ I h) fun v s1 ⟨x, H1, I1, r1, p, xs, ex, h1⟩ => ?_)⟩
  subst ex
  obtain rfl : v = Value.ref p := r1
  have one : PO X (some (.UnaryOp .USub (.Constant (.int 1) k p1) p2)) (tPart (tUn (rU fun i => .int (-i)) (tC (.int 1)))) := po_some (pe_un un_neg pe_int)
  refine wpAny_Slice (thn (po_none.run pins s1 σ H1 (fun o H2 => o = none ∧ H2 = H1) I1 ⟨rfl, rfl⟩) fun vl s2 ⟨l, H2, I2, pl, el, e2⟩ => thn (po_none.run pins s2 σ H2 (fun o H3 => o = none ∧ H3 = H2) I2 ⟨rfl, rfl⟩) fun vu s3 ⟨u, H3, I3, pu, eu, e3⟩ => thn (one.run pins s3 σ H3 (fun o H4 => o = some (-1) ∧ H4 = H3) I3 ⟨1, rfl, -1, rfl, rfl, rfl⟩) fun vs s4 ⟨o, H4, I4, ps, eo, e4⟩ => ?_)
  subst el e2 eu e3 eo e4
  cases pl
  cases pu
  have J : Inv X pins σ H4 { s4 with heap := s4.heap.push { cls := .type "slice", data := .fields #[.none, .none, vs] } } := I4.kept (t' := s4.toks) fun b ob q => Heap.get?_push_of_some _ q
  show wpAny (model X.prog X.w) X.A (subscriptTail e (.Slice none none (some (.UnaryOp .USub (.Constant (.int 1) k p1) p2)) p3) (.ref p) (.ref s4.heap.objs.size)) (EP X pins σ Q) X.xe _
  rcases h1 with ⟨hx, q⟩ | ⟨hx, q⟩
  · obtain ⟨its, r, ht, hz⟩ := J.list hx
    have hl := r.length
    refine tail_any (ops := [.ref p, .ref s4.heap.objs.size]) ht.isList.typeIs (PySem.slot_list_getitem.lookup) (wpAny_getItem_list_slice ht.isList (Heap.IsSliceOf.new _ .none .none vs) .none .none ps (by decide) ?_ (by rw [List.size_toArray]; omega)) (by with_unfolding_all rfl)
    rw [PySem.W.krv_pick]
    refine ⟨.ref _, _, J.laid (t' := s4.toks) (o := .lst xs.reverse) (fun b ob q => Heap.get?_push_of_some _ q) (Nat.le_refl _) ⟨by rw [List.length_reverse]; exact hz, _, 0, r.reverse, Heap.get?_push_size _ rfl⟩, rfl, q _ (J.hok.fresh (Nat.le_refl _))⟩
  · obtain ⟨its, r, ht, hz⟩ := J.tuple hx
    have hl := r.length
    refine tail_any (ops := [.ref p, .ref s4.heap.objs.size]) ht.typeIs (PyProof.Rows.slot_tuple_getitem.lookup) (PuR2.tup_back ht (Heap.IsSliceOf.new _ .none .none vs) ps ?_ (by rw [List.size_toArray]; omega)) (by with_unfolding_all rfl)
    refine ⟨.ref _, _, J.laid (t' := s4.toks) (o := .tup xs.reverse) (fun b ob q => Heap.get?_push_of_some _ q) (Nat.le_refl _) ⟨by rw [List.length_reverse]; exact hz, _, r.reverse, IsTup.new _ _⟩, rfl, q _ (J.hok.fresh (Nat.le_refl _))⟩
@[simp] def kBack (d : D) (Q : Sl → Prop) : Prop := match d with
  | .tup xs => Q (.fz (.tup xs.reverse))
  | .lst xs => Q (.ow (.lst xs.reverse))
  | _ => False
@[simp] def wBack (a : WR) : WE := fun E ρ Q => a E ρ fun r ρ1 => with1 (look ρ1 r) fun d => kBack d fun s => Q s ρ1
theorem re_back {k : Nat} {p1 p2 p3 : Pos} {wa : WR} (ha : RR F a wa) : RE F (.Subscript a (.Slice none none (some (.UnaryOp .USub (.Constant (.int 1) k p1) p2)) p3) pos) (wBack wa) := by
  obtain ⟨ta, a1, a2⟩ := ha
  refine ⟨tBack F.K ta, fun i => by rw [← F.hK i]; exact pe_back (a1 i), LE.of fun B σ H ρ Z Q Q' E S X hw q => a2 B σ H ρ Z _ _ E S X hw fun x r H1 ρ1 Z1 S1 le1 o1 hw => ?_⟩
  obtain ⟨d, e1, hk⟩ := with1_of hw
  cases d with
  | lst xs =>
    obtain ⟨p, vs, rfl, hs, rl⟩ := rd_lst S1 (S1.read o1 e1)
    exact ⟨p, vs, rfl, .inl ⟨.of hs, fun l hl => q _ _ _ _ _ (S1.alloc1 (o := .lst _) (d := .lst _) hl rl.rev) hk⟩⟩
  | tup xs =>
    obtain ⟨p, vs, rfl, hz, hs, rl⟩ := rd_tup S1 (S1.read o1 e1)
    refine ⟨p, vs, rfl, .inr ⟨.inl hs, fun l hl => ?_⟩⟩
    obtain ⟨S4, le4⟩ := S1.allocZ (o := .tup vs.reverse) hl
    exact q _ _ _ _ _ (S4.have (.tup (.of upd_same) (RpL.le le4 _ _ rl.rev))) hk
  | _ => exact (show False from hk).elim
end
end Pu

set_option Elab.async false
set_option linter.all false
set_option maxRecDepth 100000
/-! Pu, more: t == (), t != (), whatever stands in the tuple t. -/
namespace PuE2
open PySem PySem.SeqAt GQ PySem.Spec
open AutoSeq1 (wpAny_loadPart')
open MeetsSeq MeetsSeq2 MeetsSeq3 SeqRoads2
variable {prog : Program} {w : World} {A : Around} {R : Result → Shared → Prop}
theorem eq_none (l b : Addr) (items : Array Value) (n n2 : Nat) (dd dd2 : Option Addr) (sl sl2 : Array (Option Value)) {s : Shared} (fin : R (.ok (.ret (.bool (items.size == 0)))) s)
    (hl : s.heap.get? l = some { cls := .type "tuple", dict := dd, data := .seq items n, slots := sl }) (hb : s.heap.get? b = some { cls := .type "tuple", dict := dd2, data := .seq #[] n2, slots := sl2 }) :
    wpAny (model prog w) A.in1 (Builtin.«tuple.__eq__» ⟨[.ref l, .ref b], []⟩) (FinOf prog w A R) (fun e s' => R (.error e) s') s := by
  have f2 := AutoSeq1.sub_tuple_tuple
  obtain ⟨hp, g, d, tk, os⟩ := s
  wp_walk using wpAny_loadPart' hl, wpAny_loadPart' hb, wpAny_forIn_list _ (fun rest q s' => rest = [] ∧ q.1 = none ∧ s' = ⟨hp, g, d, tk, os⟩) _
  case turn =>
    rintro x rest q s' ⟨h, _⟩
    cases h
  case fin =>
    rintro ⟨q1, q2⟩ s' ⟨_, h1, rfl⟩
    simp only at h1
    subst h1
    wp_walk
    simpa [Builtin.Tuple.tupleCompareSizes] using fin
  case h => exact ⟨by simp, rfl, rfl⟩
theorem ne_none (l b : Addr) (items : Array Value) (n n2 : Nat) (dd dd2 : Option Addr) (sl sl2 : Array (Option Value)) {s : Shared} (fin : R (.ok (.ret (.bool (items.size != 0)))) s)
    (hl : s.heap.get? l = some { cls := .type "tuple", dict := dd, data := .seq items n, slots := sl }) (hb : s.heap.get? b = some { cls := .type "tuple", dict := dd2, data := .seq #[] n2, slots := sl2 }) :
    wpAny (model prog w) A.in1 (Builtin.«tuple.__ne__» ⟨[.ref l, .ref b], []⟩) (FinOf prog w A R) (fun e s' => R (.error e) s') s := by
  have f2 := AutoSeq1.sub_tuple_tuple
  obtain ⟨hp, g, d, tk, os⟩ := s
  wp_walk using wpAny_loadPart' hl, wpAny_loadPart' hb, wpAny_forIn_list _ (fun rest q s' => rest = [] ∧ q.1 = none ∧ s' = ⟨hp, g, d, tk, os⟩) _
  case turn =>
    rintro x rest q s' ⟨h, _⟩
    cases h
  case fin =>
    rintro ⟨q1, q2⟩ s' ⟨_, h1, rfl⟩
    simp only at h1
    subst h1
    wp_walk
    simpa [Builtin.Tuple.tupleCompareSizes] using fin
  case h => exact ⟨by simp, rfl, rfl⟩
variable {E : Value → Shared → Prop} {s : Shared} {Q : Value → Shared → Prop}
theorem rc_none {l b : Addr} {items : Array Value} (hu : A.units < cLine) (hl : s.heap.IsTuple l items) (hb : s.heap.IsTuple b #[]) (h : Q (.bool (items.size == 0)) s) : wpAny (model prog w) A (richCompare .Eq (.ref l) (.ref b)) Q E s := by
  obtain ⟨⟨cls, dd, data, sl⟩, ho, hc, n, hd⟩ := id hl
  obtain ⟨⟨cls2, dd2, data2, sl2⟩, ho2, hc2, n2, hd2⟩ := id hb
  simp only at hc hd hc2 hd2
  subst hc hd hc2 hd2
  exact wpAny_richCompare_same_room (op := .Eq) ⟨_, ho, rfl⟩ ⟨_, ho2, rfl⟩ F.slot_tuple_eq (call_here F.slot_tuple_eq ⟨_, ho, rfl⟩ F.entry_tuple_eq (F.args_tuple_eq_2 _ _) (eq_none (R := wants (fun v s' => v ≠ .notImplemented ∧ Q v s') E) l b items n n2 dd dd2 sl sl2 ⟨(fun x => nomatch x), h⟩ ho ho2)) hu
theorem rn_none {l b : Addr} {items : Array Value} (hu : A.units < cLine) (hl : s.heap.IsTuple l items) (hb : s.heap.IsTuple b #[]) (h : Q (.bool (items.size != 0)) s) : wpAny (model prog w) A (richCompare .NotEq (.ref l) (.ref b)) Q E s := by
  obtain ⟨⟨cls, dd, data, sl⟩, ho, hc, n, hd⟩ := id hl
  obtain ⟨⟨cls2, dd2, data2, sl2⟩, ho2, hc2, n2, hd2⟩ := id hb
  simp only at hc hd hc2 hd2
  subst hc hd hc2 hd2
  exact wpAny_richCompare_same_room (op := .NotEq) ⟨_, ho, rfl⟩ ⟨_, ho2, rfl⟩ F.slot_tuple_ne (call_here F.slot_tuple_ne ⟨_, ho, rfl⟩ F.entry_tuple_ne (F.args_tuple_ne_2 _ _) (ne_none (R := wants (fun v s' => v ≠ .notImplemented ∧ Q v s') E) l b items n n2 dd dd2 sl sl2 ⟨(fun x => nomatch x), h⟩ ho ho2)) hu
end PuE2

set_option Elab.async false
set_option linter.all false
set_option maxRecDepth 100000
/-! Pu, more: t == (), t != () over plain data. -/
namespace Pu
open PySem L2 PySem.Spec PyProof.Rows
section
variable {F : Fm}
def rEqE (K : PySem.W.Frag) (g : Bool → Bool) : R2 := fun x y H Q => ∃ a b xs, x = .ref a ∧ y = .ref b ∧ SqT K H a xs ∧ SqT K H b [] ∧ Q (.bl (g xs.isEmpty)) H
theorem vals_size {xs : List V} {its : List Value} (r : Vals xs its) : (its.toArray.size == 0) = xs.isEmpty := by
  rw [List.size_toArray, ← r.length]
  cases xs <;> simp
theorem op_eqE {X : Cx} (hu : X.A.units < cLine) : OpR X (compareOp .Eq) (rEqE X.K fun b => b) := by
  rintro pins s σ H x y v u Q I rx ry ⟨a, b, xs, rfl, rfl, ha, hb, q⟩
  cases rx
  cases ry
  obtain ⟨its, r, p1, _⟩ := I.tuple ha
  obtain ⟨its2, r2, p2, _⟩ := I.tuple hb
  cases r2
  show wpAny (model X.prog X.w) X.A (richCompare .Eq (.ref a) (.ref b)) (EP X pins σ Q) X.xe s
  refine PuE2.rc_none hu p1 p2 ⟨.bl xs.isEmpty, H, I, ?_, q⟩
  rw [vals_size r]
  rfl
theorem op_neE {X : Cx} (hu : X.A.units < cLine) : OpR X (compareOp .NotEq) (rEqE X.K fun b => !b) := by
  rintro pins s σ H x y v u Q I rx ry ⟨a, b, xs, rfl, rfl, ha, hb, q⟩
  cases rx
  cases ry
  obtain ⟨its, r, p1, _⟩ := I.tuple ha
  obtain ⟨its2, r2, p2, _⟩ := I.tuple hb
  cases r2
  show wpAny (model X.prog X.w) X.A (richCompare .NotEq (.ref a) (.ref b)) (EP X pins σ Q) X.xe s
  refine PuE2.rn_none hu p1 p2 ⟨.bl (!xs.isEmpty), H, I, ?_, q⟩
  rw [show (its.toArray.size != 0) = !(its.toArray.size == 0) from rfl, vals_size r]
  rfl
@[simp] def kEqE : K2 := fun x y Q => match y with
  | .tup [] => (match x with
    | .tup ds => Q (.fz (.bl ds.isEmpty))
    | _ => kEq x y Q)
  | _ => kEq x y Q
@[simp] def kNeE : K2 := fun x y Q => match y with
  | .tup [] => (match x with
    | .tup ds => Q (.fz (.bl !ds.isEmpty))
    | _ => kNe x y Q)
  | _ => kNe x y Q
theorem rpl_empty {K : PySem.W.Frag} {Z : Hp} {vs : List V} {ds : List D} (r : RpL K Z vs ds) : vs.isEmpty = ds.isEmpty := by
  cases r <;> rfl
theorem unD {n : Nat} (h : n + 80 < cLine) : n < cLine := by omega
theorem od_eqE : OpD F (compareOp .Eq) kEqE := by
  obtain ⟨r, h1, h2⟩ := od_eq (F := F)
  refine ⟨fun x y H Q => r x y H Q ∨ rEqE F.K (fun b => b) x y H Q, fun i => by rw [← F.hK i]; exact (h1 i).or (op_eqE (unD (F.un i))), fun B σ H ρ Z x y dx dy Q Q' S rx ry hk q => ?_⟩
  have old : kEq dx dy Q' → r x y H Q ∨ rEqE F.K (fun b => b) x y H Q := fun h => .inl (h2 B σ H ρ Z x y dx dy Q Q' S rx ry h q)
  cases dy with
  | tup ys =>
    cases ys with
    | nil =>
      cases dx with
      | tup xs =>
        obtain ⟨a, vs, rfl, _, ha, ra⟩ := rd_tup S rx
        obtain ⟨b, us, rfl, _, hb, rb⟩ := rd_tup S ry
        cases rb
        refine .inr ⟨a, b, vs, rfl, rfl, .inl ha, .inl hb, ?_⟩
        rw [rpl_empty ra]
        exact q _ _ _ _ (S.have (.bl _)) hk
      | _ => exact old hk
    | cons y ys => exact old hk
  | _ => exact old hk
theorem od_neE : OpD F (compareOp .NotEq) kNeE := by
  obtain ⟨r, h1, h2⟩ := od_ne (F := F)
  refine ⟨fun x y H Q => r x y H Q ∨ rEqE F.K (fun b => !b) x y H Q, fun i => by rw [← F.hK i]; exact (h1 i).or (op_neE (unD (F.un i))), fun B σ H ρ Z x y dx dy Q Q' S rx ry hk q => ?_⟩
  have old : kNe dx dy Q' → r x y H Q ∨ rEqE F.K (fun b => !b) x y H Q := fun h => .inl (h2 B σ H ρ Z x y dx dy Q Q' S rx ry h q)
  cases dy with
  | tup ys =>
    cases ys with
    | nil =>
      cases dx with
      | tup xs =>
        obtain ⟨a, vs, rfl, _, ha, ra⟩ := rd_tup S rx
        obtain ⟨b, us, rfl, _, hb, rb⟩ := rd_tup S ry
        cases rb
        refine .inr ⟨a, b, vs, rfl, rfl, .inl ha, .inl hb, ?_⟩
        rw [rpl_empty ra]
        exact q _ _ _ _ (S.have (.bl _)) hk
      | _ => exact old hk
    | cons y ys => exact old hk
  | _ => exact old hk
end
end Pu

set_option Elab.async false
set_option linter.all false
set_option maxRecDepth 100000
/-! Pu, more: a name read for the last time: what it holds goes on as one's own. -/
namespace Pu
open PySem L2 PySem.Spec PyProof.Rows
section
variable {K : PySem.W.Frag} {B : Bs} {σ : L2.St} {H : Hp} {ρ : En} {Z : Hp}
theorem St1.takeS {i : Nat} {d : D} (S : St1 K B σ H ρ Z []) (e : ρ[i]? = some (.ow d)) : ∃ a, σ[i]? = some (some (.ref a)) ∧ St1 K B σ H (ρ.set i .un) Z [(.ref a, .ow d)] := by
  obtain ⟨v, l, r, e1, e2, e3⟩ := zip_focus S.len e
  obtain ⟨fps, h1, h2⟩ := S.rp
  simp only [tmps, List.map_nil, List.append_nil, e2] at h1
  obtain ⟨g1, g2, rfl, q1, q2⟩ := pd_split h1
  cases q2 with
  | cons q0 q2 =>
    rename_i g g2
    obtain ⟨a, o, ev, q⟩ := id q0
    refine ⟨a, by rw [e1]; exact congrArg some ev, by rw [List.length_set]; exact S.len, S.sub, S.zn, S.zo, S.fx, S.dm, ?_⟩
    have ez : σ.zip (ρ.set i .un) = l ++ (v, .un) :: r := by
      have := e3 v .un
      rw [set_same e1] at this
      exact this
    rw [ez]
    simp only [List.flatten_append, List.flatten_cons] at h2
    obtain ⟨n1, n2, d1⟩ := nodup_app h2
    obtain ⟨n3, n4, d2⟩ := nodup_app n2
    refine ⟨(g1 ++ [] :: g2) ++ [g], pd_app (pd_app q1 (.cons rfl q2)) (.cons ?_ .nil), ?_⟩
    · show SlR K B Z H (some (.ref a)) g (.ow d)
      rw [← ev]
      exact q0
    · simp only [List.flatten_append, List.flatten_cons, List.flatten_nil, List.append_nil, List.nil_append]
      refine List.nodup_append.mpr ⟨List.nodup_append.mpr ⟨n1, n4, fun x hx y hy xy => d1 x hx (List.mem_append_right _ (xy ▸ hy))⟩, n3, fun x hx y hy xy => ?_⟩
      subst xy
      rcases List.mem_append.mp hx with hx | hx
      · exact d1 x hx (List.mem_append_left _ hy)
      · exact d2 x hy hx
end
section
variable {F : Fm} {pos : Pos}
/-- a name whose value goes on as one's own; a value that stays is read -/
@[simp] def wMv (i : Nat) : WE := fun _ ρ Q => match ρ[i]? with
  | some (.ow d) => Q (.ow d) (ρ.set i .un)
  | some (.fz d) => Q (.fz d) ρ
  | _ => False
theorem re_mv (k : Nat) {x : Str} (hN : ∀ i, (F.X i).N[k]? = some x := by intro _; rfl) (hv : ∀ i, Vis (F.X i).env.scope x := by intro _; first | exact Or.inl rfl | exact Or.inr (Or.inl rfl) | exact Or.inr (Or.inr rfl)) (hd : (x == ("__debug__" : Str)) = false := by decide)
    (hcd : (x == ("__classdict__" : Str)) = false := by decide) : RE F (.Name x pos) (wMv k) := by
  refine ⟨tVar k, fun i => pe_var (hN i) (hv i) hd hcd, fun B σ H ρ Z Q Q' E S X hw q => ?_⟩
  unfold wMv at hw
  cases e : ρ[k]? with
  | none => rw [e] at hw; exact hw.elim
  | some s =>
    rw [e] at hw
    cases s with
    | ow d =>
      obtain ⟨a, e1, S'⟩ := S.takeS e
      exact ⟨.ref a, e1, q (.ref a) _ H _ Z S' (fun _ _ z => z) hw⟩
    | fz d =>
      obtain ⟨Z', v, le, e1, S', r⟩ := S.thawS e (.inl rfl)
      rw [set_same e] at S'
      exact ⟨v, e1, q v _ H _ Z' (S'.have r) le hw⟩
    | _ => exact (show False from hw).elim
/-- {} -/
@[simp] def wDic0 : WE := fun _ ρ Q => Q (.ow (.dic [] [])) ρ
theorem re_dic0 : RE F (.Dict [] [] pos) wDic0 := ⟨tDNewK, fun _ => pe_dnewK, LE.of fun B σ H ρ Z Q Q' E S X hw q => fun p hp => q _ _ _ _ _ (S.alloc1 (o := .dK []) (d := .dic [] []) hp ⟨rfl, .nil⟩) hw⟩
end
end Pu

set_option Elab.async false
set_option linter.all false
set_option maxRecDepth 100000
/-! Pu: what hangs together, within some places. -/
namespace Pu
open PySem L2 PySem.Spec PyProof.Rows TL
inductive Path (n : Nat) (A : Nat → Nat → Bool) (f : Nat → Bool) : Nat → Nat → Prop
  | refl (i : Nat) : Path n A f i i
  | step {i j k : Nat} : Path n A f i j → A j k = true → f k = true → k < n → Path n A f i k
section
variable {n : Nat} {A : Nat → Nat → Bool} {f : Nat → Bool}
theorem Path.trans {i j k : Nat} (h : Path n A f i j) (h' : Path n A f j k) : Path n A f i k := by
  induction h' with
  | refl => exact h
  | step _ a b c ih => exact .step ih a b c
theorem Path.in {i j : Nat} (h : Path n A f i j) (hi : f i = true ∧ i < n) : f j = true ∧ j < n := by
  cases h with
  | refl => exact hi
  | step _ _ b c => exact ⟨b, c⟩
theorem Path.symm (sy : ∀ i j, A i j = A j i) {i j : Nat} (h : Path n A f i j) (hi : f i = true ∧ i < n) : Path n A f j i := by
  induction h with
  | refl => exact .refl _
  | step h1 a b c ih => exact Path.trans (.step (.refl _) (by rw [sy]; exact a) (h1.in hi).1 (h1.in hi).2) ih
noncomputable def conn (n : Nat) (A : Nat → Nat → Bool) (f : Nat → Bool) (i j : Nat) : Bool := @decide (Path n A f i j) (Classical.propDecidable _)
theorem conn_iff {i j : Nat} : conn n A f i j = true ↔ Path n A f i j := by unfold conn; exact @decide_eq_true_iff _ (Classical.propDecidable _)
def round (n : Nat) (A : Nat → Nat → Bool) (p : Nat → Bool) (j : Nat) : Bool := (List.range n).any fun i => p i && A i j
/-- a flood: F is reached, M came last -/
structure Flood (n : Nat) (A : Nat → Nat → Bool) (f : Nat → Bool) (s : Nat) (F M : Nat → Bool) : Prop where
  st : F s = true
  un : ∀ i, i < n → F i = true → Path n A f s i
  cl : ∀ i j, i < n → j < n → F i = true → M i = false → A i j = true → f j = true → F j = true
  mf : ∀ i, M i = true → F i = true
def fresh (n : Nat) (A : Nat → Nat → Bool) (f F M : Nat → Bool) (j : Nat) : Bool := (round n A M j && f j) && !F j
theorem Flood.start {s : Nat} : Flood n A f s (fun i => decide (i = s)) (fun i => decide (i = s)) :=
  ⟨by simp, fun i _ h => by rw [decide_eq_true_iff] at h; exact h ▸ .refl _, fun i j _ _ h1 h2 => (by rw [h1] at h2; cases h2), fun _ h => h⟩
theorem Flood.next {s : Nat} {F M : Nat → Bool} (h : Flood n A f s F M) : Flood n A f s (fun i => F i || fresh n A f F M i) (fresh n A f F M) := by
  refine ⟨by simp [h.st], fun i hi hF => ?_, fun i j hi hj hF hM a b => ?_, fun i hM => by simp [hM]⟩
  · rw [Bool.or_eq_true] at hF
    rcases hF with hF | hF
    · exact h.un i hi hF
    · simp only [fresh, round, Bool.and_eq_true, List.any_eq_true, List.mem_range] at hF
      obtain ⟨⟨⟨k, hk, m, a⟩, b⟩, _⟩ := hF
      exact .step (h.un k hk (h.mf k m)) a b hi
  · rw [Bool.or_eq_true] at hF ⊢
    rcases hF with hF | hF
    · cases hm : M i with
      | false => exact .inl (h.cl i j hi hj hF hm a b)
      | true =>
        cases hj2 : F j with
        | true => exact .inl rfl
        | false =>
          right
          simp only [fresh, round, Bool.and_eq_true, List.any_eq_true, List.mem_range]
          exact ⟨⟨⟨i, hi, hm, a⟩, b⟩, by rw [hj2]; rfl⟩
    · rw [hF] at hM; cases hM
theorem Flood.end {s : Nat} {F M : Nat → Bool} (h : Flood n A f s F M) (hs : s < n) (hM : ∀ i, i < n → M i = false) {j : Nat} (hj : j < n) : F j = conn n A f s j := by
  rw [Bool.eq_iff_iff, conn_iff]
  refine ⟨h.un j hj, fun p => ?_⟩
  have : ∀ k, Path n A f s k → k < n → F k = true := by
    intro k p
    induction p with
    | refl => intro _; exact h.st
    | @step i k p a b c ih =>
      intro hk
      have hi : i < n := by
        cases p with
        | refl => exact hs
        | step _ _ _ c => exact c
      exact h.cl _ _ hi hk (ih hi) (hM _ hi) a b
  exact this j p hj
theorem mk_disj {F M : Nat → Bool} (h : ∀ i, i < n → M i = true → F i = false) : mk n (fun i => F i || M i) = mk n F + mk n M := by
  have := mk_split (fun i => F i || M i) F n
  rw [mk_ext (q := F) (fun i _ => by cases F i <;> simp), mk_ext (p := fun i => (F i || M i) && !F i) (q := M) (fun i hi => by
    cases hm : M i with
    | true => rw [h i hi hm]; rfl
    | false => cases F i <;> rfl)] at this
  exact this.symm
/-! the least of a set -/
theorem least_of {p : Nat → Bool} : ∀ n, (∃ i, i < n ∧ p i = true) → ∃ s, s < n ∧ p s = true ∧ ∀ i, i < s → p i = false
  | 0, h => by obtain ⟨_, h, _⟩ := h; exact absurd h (Nat.not_lt_zero _)
  | n + 1, h => by
    by_cases h2 : ∃ i, i < n ∧ p i = true
    · obtain ⟨s, h3, h4⟩ := least_of n h2
      exact ⟨s, by omega, h4⟩
    · obtain ⟨i, hi, hp⟩ := h
      have : i = n := by
        rcases Nat.lt_or_ge i n with h3 | h3
        · exact absurd ⟨i, h3, hp⟩ h2
        · omega
      subst this
      refine ⟨i, Nat.lt_succ_self _, hp, fun j hj => ?_⟩
      cases hq : p j with
      | false => rfl
      | true => exact absurd ⟨j, hj, hq⟩ h2
/-- those that are the least of what hangs together with them -/
noncomputable def isRep (n : Nat) (A : Nat → Nat → Bool) (f : Nat → Bool) (i : Nat) : Bool := f i && (List.range i).all fun j => !(f j && conn n A f j i)
noncomputable def reps (n : Nat) (A : Nat → Nat → Bool) (f : Nat → Bool) : List Nat := nums n (isRep n A f)
theorem rep_of {j : Nat} (hj : j < n) (hf : f j = true) : ∃ r, r ≤ j ∧ r ∈ reps n A f ∧ Path n A f r j := by
  obtain ⟨r, h1, h2, h3⟩ := least_of (p := fun i => f i && conn n A f i j) (j + 1) ⟨j, Nat.lt_succ_self _, by rw [hf, conn_iff.mpr (.refl _)]; rfl⟩
  rw [Bool.and_eq_true, conn_iff] at h2
  refine ⟨r, by omega, mem_nums.mpr ⟨by omega, ?_⟩, h2.2⟩
  unfold isRep
  rw [h2.1, Bool.true_and, List.all_eq_true]
  intro i hi
  have hi := List.mem_range.mp hi
  have h4 := h3 i hi
  cases hc : f i && conn n A f i r with
  | false => rfl
  | true =>
    rw [Bool.and_eq_true, conn_iff] at hc
    rw [hc.1, conn_iff.mpr (hc.2.trans h2.2)] at h4
    cases h4
theorem rep_free {r : Nat} (h : r ∈ reps n A f) : f r = true ∧ r < n := by
  obtain ⟨h1, h2⟩ := mem_nums.mp h
  unfold isRep at h2
  rw [Bool.and_eq_true] at h2
  exact ⟨h2.1, h1⟩
theorem rep_only {r q : Nat} (hr : r ∈ reps n A f) (hq : f q = true) (hlt : q < r) : ¬ Path n A f q r := fun p => by
  obtain ⟨_, h2⟩ := mem_nums.mp hr
  unfold isRep at h2
  rw [Bool.and_eq_true, List.all_eq_true] at h2
  have := h2.2 q (List.mem_range.mpr hlt)
  rw [hq, conn_iff.mpr p] at this
  cases this
/-- what is left behind the first k of them -/
noncomputable def leftAt (n : Nat) (A : Nat → Nat → Bool) (f : Nat → Bool) (k j : Nat) : Bool := f j && ((reps n A f).take k).all fun r => !conn n A f r j
theorem left_all {k : Nat} (hk : (reps n A f).length ≤ k) {j : Nat} (hj : j < n) : leftAt n A f k j = false := by
  unfold leftAt
  rw [List.take_of_length_le hk]
  cases hf : f j with
  | false => rfl
  | true =>
    obtain ⟨r, _, h2, h3⟩ := rep_of (A := A) hj hf
    rw [Bool.true_and, ← Bool.not_eq_true, List.all_eq_true]
    intro h
    have := h r h2
    rw [conn_iff.mpr h3] at this
    cases this
theorem left_at (sy : ∀ i j, A i j = A j i) {k : Nat} (hk : k < (reps n A f).length) : leftAt n A f k (reps n A f)[k] = true ∧ ∀ j, j < (reps n A f)[k] → leftAt n A f k j = false := by
  have pw := nums_pair n (isRep n A f)
  have pw : (reps n A f).Pairwise (· < ·) := pw
  have lt : ∀ i, i < k → ∀ (h : i < (reps n A f).length), (reps n A f)[i] < (reps n A f)[k] := fun i hi h => List.pairwise_iff_getElem.mp pw i k h hk hi
  have hr := List.getElem_mem hk
  have hfr := rep_free hr
  constructor
  · unfold leftAt
    rw [hfr.1, Bool.true_and, List.all_eq_true]
    intro r m
    obtain ⟨i, hi, rfl⟩ := List.mem_take_iff_getElem.mp m
    have hi2 : i < (reps n A f).length := by omega
    cases hc : conn n A f (reps n A f)[i] (reps n A f)[k] with
    | false => rfl
    | true => exact absurd (conn_iff.mp hc) (rep_only hr (rep_free (List.getElem_mem hi2)).1 (lt i (by omega) hi2))
  · intro j hj
    unfold leftAt
    cases hf : f j with
    | false => rfl
    | true =>
      have hjn : j < n := Nat.lt_trans hj hfr.2
      obtain ⟨r, h1, h2, h3⟩ := rep_of (A := A) hjn hf
      rw [Bool.true_and, ← Bool.not_eq_true, List.all_eq_true]
      intro h
      obtain ⟨i, hi, rfl⟩ := List.getElem_of_mem h2
      have hik : i < k := by
        rcases Nat.lt_or_ge i k with h4 | h4
        · exact h4
        · rcases Nat.lt_or_eq_of_le h4 with h5 | h5
          · have := List.pairwise_iff_getElem.mp pw k i hk hi h5
            omega
          · subst h5; omega
      have := h _ (List.mem_take_iff_getElem.mpr ⟨i, by omega, rfl⟩)
      rw [conn_iff.mpr h3] at this
      cases this
theorem left_succ {k : Nat} (hk : k < (reps n A f).length) (j : Nat) : leftAt n A f (k + 1) j = (leftAt n A f k j && !conn n A f (reps n A f)[k] j) := by
  unfold leftAt
  rw [List.take_add_one, List.getElem?_eq_getElem hk]
  simp only [Option.toList, List.all_append, List.all_cons, List.all_nil, Bool.and_true, Bool.and_assoc]
/-! the lowest bit -/
theorem low_mk {L : Nat → Bool} {s : Nat} (hs : s < n) (h1 : L s = true) (h2 : ∀ i, i < s → L i = false) : Builtin.bitAnd (mk n L : Int) (0 - (mk n L : Int)) = ((2 ^ s : Nat) : Int) := by
  have hm : mk n L % 2 ^ s = 0 := by
    refine Nat.eq_of_testBit_eq fun i => ?_
    rw [Nat.testBit_mod_two_pow, mk_bit]
    by_cases hi : i < s
    · rw [h2 i hi]; simp
    · simp [hi]
  have ho : mk n L / 2 ^ s % 2 = 1 := by
    have e := mk_bit n L s
    rw [Nat.testBit_eq_decide_div_mod_eq, h1] at e
    simpa [hs] using e
  obtain ⟨a, ha⟩ : ∃ a, mk n L / 2 ^ s = 2 * a + 1 := ⟨mk n L / 2 ^ s / 2, by omega⟩
  have e : mk n L = 2 ^ s * (2 * a + 1) := by
    have := Nat.div_add_mod (mk n L) (2 ^ s)
    rw [hm, ha] at this
    omega
  have e2 : (mk n L : Int) = 2 ^ s * (2 * (a : Int) + 1) := by
    rw [e]
    simp
  rw [e2, Int.zero_sub, PySem.W.kbt_low]
  simp
end
/-! a while, its body behind a name -/
theorem while_i {t : WT} {body : WS} {K : EndD} {ρ : En} (W : Nat → En → Prop) (h0 : ∃ m, W m ρ) (h : ∀ m ρ, W m ρ → ∀ N : En → Prop, (∀ ρ', body { K with nx := fun ρ2 => ∃ m', m' < m ∧ W m' ρ2, ct := fun ρ2 => ∃ m', m' < m ∧ W m' ρ2, bk := K.nx } ρ' → N ρ') →
    t K.ex ρ fun b ρ1 => if b = true then N ρ1 else K.nx ρ1) : wWhile t body K ρ :=
  ⟨W, h0, fun m ρ hw => h m ρ hw _ fun _ h => h⟩
end Pu

set_option Elab.async false
set_option linter.all false
set_option maxRecDepth 100000
/-! Pu: walks and how far it is. -/
namespace Pu
inductive Hops (n : Nat) (A : Nat → Nat → Bool) : Nat → Nat → Nat → Prop
  | nil {i : Nat} : i < n → Hops n A 0 i i
  | snoc {k i j l : Nat} : Hops n A k i j → A j l = true → l < n → Hops n A (k + 1) i l
section
variable {n : Nat} {A : Nat → Nat → Bool}
theorem Hops.lt {k i j : Nat} (h : Hops n A k i j) : i < n ∧ j < n := by
  induction h with
  | nil h => exact ⟨h, h⟩
  | snoc _ _ h ih => exact ⟨ih.1, h⟩
theorem Hops.cons {i j : Nat} (hi : i < n) (a : A i j = true) : ∀ {k l : Nat}, Hops n A k j l → Hops n A (k + 1) i l := by
  intro k l h
  induction h with
  | nil h => exact .snoc (.nil hi) a h
  | snoc _ b c ih => exact .snoc (ih a) b c
theorem Hops.symm (sy : ∀ i j, A i j = A j i) {k i j : Nat} (h : Hops n A k i j) : Hops n A k j i := by
  induction h with
  | nil h => exact .nil h
  | snoc h b c ih => exact .cons c (by rw [sy]; exact b) ih
def Dst (n : Nat) (A : Nat → Nat → Bool) (s j d : Nat) : Prop := Hops n A d s j ∧ ∀ e, Hops n A e s j → d ≤ e
theorem Dst.one {s j d e : Nat} (h : Dst n A s j d) (h' : Dst n A s j e) : d = e := Nat.le_antisymm (h.2 _ h'.1) (h'.2 _ h.1)
theorem Dst.symm (sy : ∀ i j, A i j = A j i) {s j d : Nat} (h : Dst n A s j d) : Dst n A j s d := ⟨h.1.symm sy, fun e w => h.2 e (w.symm sy)⟩
/-- what a search that has come to its end has found -/
theorem bfs_all {R : Nat → Nat → Prop} {s : Nat} (h0 : R s 0) (h2 : ∀ i d, R i d → ∀ j, j < n → A i j = true → ∃ e, e ≤ d + 1 ∧ R j e) {m i j : Nat} (w : Hops n A m i j) (e : i = s) : ∃ d, d ≤ m ∧ R j d := by
  induction w with
  | nil _ => subst e; exact ⟨0, Nat.le_refl _, h0⟩
  | snoc _ b c ih =>
    obtain ⟨d, l, r⟩ := ih e
    obtain ⟨d', l', r'⟩ := h2 _ d r _ c b
    exact ⟨d', by omega, r'⟩
theorem bfs_dst {R : Nat → Nat → Prop} {s : Nat} (h0 : R s 0) (h1 : ∀ j d, R j d → Hops n A d s j) (h2 : ∀ i d, R i d → ∀ j, j < n → A i j = true → ∃ e, e ≤ d + 1 ∧ R j e) (h3 : ∀ j d e, R j d → R j e → d = e) {j d : Nat} (r : R j d) : Dst n A s j d :=
  ⟨h1 j d r, fun m w => by
    obtain ⟨e, l, r'⟩ := bfs_all h0 h2 w rfl
    rw [h3 j d e r r']
    exact l⟩
/-- a way, room by room -/
inductive Way (n : Nat) (A : Nat → Nat → Bool) (s : Nat) : Nat → List Nat → Prop
  | one : s < n → Way n A s s [s]
  | more {j l : Nat} {p : List Nat} : Way n A s j p → A j l = true → l < n → Way n A s l (p ++ [l])
theorem Way.walk {s j : Nat} {p : List Nat} (h : Way n A s j p) : ∃ d, p.length = d + 1 ∧ Hops n A d s j := by
  induction h with
  | one h => exact ⟨0, rfl, .nil h⟩
  | more _ a c ih =>
    obtain ⟨d, e, w⟩ := ih
    exact ⟨d + 1, by rw [List.length_append, e]; rfl, .snoc w a c⟩
theorem Way.last {s j : Nat} {p : List Nat} (h : Way n A s j p) : p.getLast? = some j := by
  cases h with
  | one => rfl
  | more => simp
theorem Way.head {s j : Nat} {p : List Nat} (h : Way n A s j p) : p.head? = some s := by
  induction h with
  | one => rfl
  | @more j l p h _ _ ih =>
    cases p with
    | nil => cases ih
    | cons a p => exact ih
theorem Way.lt {s j : Nat} {p : List Nat} (h : Way n A s j p) : ∀ a ∈ p, a < n := by
  induction h with
  | one h => intro a m; rw [List.mem_singleton.mp m]; exact h
  | more _ _ c ih =>
    intro a m
    rcases List.mem_append.mp m with m | m
    · exact ih a m
    · rw [List.mem_singleton.mp m]; exact c
/-- each is beside the next one -/
def chainB {α : Type} (r : α → α → Bool) : List α → Bool
  | a :: b :: l => r a b && chainB r (b :: l)
  | _ => true
theorem chain_snoc {α : Type} {r : α → α → Bool} : ∀ {p : List α} {x l : α}, p.getLast? = some x → chainB r (p ++ [l]) = (chainB r p && r x l)
  | [a], x, l, e => by
    simp at e
    subst e
    simp [chainB]
  | a :: b :: p, x, l, e => by
    have e : (b :: p).getLast? = some x := by rw [List.getLast?_cons_cons] at e; exact e
    have ih := chain_snoc (r := r) (p := b :: p) (l := l) e
    show (r a b && chainB r ((b :: p) ++ [l])) = (r a b && chainB r (b :: p) && r x l)
    rw [ih, Bool.and_assoc]
theorem Way.chain {s j : Nat} {p : List Nat} (h : Way n A s j p) : chainB A p = true := by
  induction h with
  | one => rfl
  | more w a _ ih => rw [chain_snoc w.last, ih, a]; rfl
end
end Pu

set_option Elab.async false
set_option linter.all false
set_option maxRecDepth 100000
/-! Pu: a search room by room, level by level; dicts whose keys are names at places. -/
namespace Pu
open PySem L2 PySem.Spec PyProof.Rows TL
section
variable {n : Nat} {A : Nat → Nat → Bool} {s : Nat}
theorem one_at {α : Type} {F : List (Nat × α)} (nd : (F.map Prod.fst).Nodup) {i : Nat} {a b : α} (h1 : (i, a) ∈ F) (h2 : (i, b) ∈ F) : a = b := by
  obtain ⟨k, hk, e1⟩ := List.mem_iff_getElem.mp h1
  obtain ⟨l, hl, e2⟩ := List.mem_iff_getElem.mp h2
  have hk' : k < (F.map Prod.fst).length := by rw [List.length_map]; exact hk
  have hl' : l < (F.map Prod.fst).length := by rw [List.length_map]; exact hl
  have : (F.map Prod.fst)[k] = (F.map Prod.fst)[l] := by rw [List.getElem_map, List.getElem_map, e1, e2]
  have := (List.getElem_inj nd).mp this
  subst this
  rw [e1] at e2
  exact congrArg Prod.snd e2
theorem nd_snoc {α : Type} {F : List (Nat × α)} (nd : (F.map Prod.fst).Nodup) {j : Nat} {a : α} (h : ∀ p ∈ F, p.1 ≠ j) : ((F ++ [(j, a)]).map Prod.fst).Nodup := by
  rw [List.map_append]
  refine List.nodup_append.mpr ⟨nd, by simp, fun x mx y my e => ?_⟩
  obtain ⟨p, mp, rfl⟩ := List.mem_map.mp mx
  have : y = j := by simpa using my
  exact h p mp (e.trans this)
theorem few_sub {α : Type} [DecidableEq α] : ∀ {l m : List α}, l.Nodup → (∀ x ∈ l, x ∈ m) → l.length ≤ m.length
  | [], _, _, _ => Nat.zero_le _
  | a :: l, m, nd, h => by
    rw [List.nodup_cons] at nd
    have ha := h a (List.mem_cons_self ..)
    have ih := few_sub (l := l) (m := m.erase a) nd.2 fun x hx => (List.mem_erase_of_ne (fun (e : x = a) => nd.1 (by rw [← e]; exact hx))).mpr (h x (List.mem_cons_of_mem _ hx))
    rw [List.length_erase_of_mem ha] at ih
    have : 0 < m.length := List.length_pos_of_mem ha
    rw [List.length_cons]
    omega
theorem few_keys {α : Type} {F : List (Nat × α)} (nd : (F.map Prod.fst).Nodup) (h : ∀ p ∈ F, p.1 < n) : F.length ≤ n := by
  have h1 : (F.map Prod.fst) ⊆ List.range n := fun x m => by
    obtain ⟨p, mp, rfl⟩ := List.mem_map.mp m
    exact List.mem_range.mpr (h p mp)
  have := few_sub nd h1
  rwa [List.length_map, List.length_range] at this
/-! rooms with ways -/
structure Rw (n : Nat) (A : Nat → Nat → Bool) (s : Nat) (F : List (Nat × List Nat)) : Prop where
  way : ∀ p ∈ F, Way n A s p.1 p.2
  nd : (F.map Prod.fst).Nodup
  st : (s, [s]) ∈ F
def ClR (n : Nat) (A : Nat → Nat → Bool) (F : List (Nat × List Nat)) (i : Nat) (p : List Nat) : Prop := ∀ j, j < n → A i j = true → ∃ q, (j, q) ∈ F ∧ q.length ≤ p.length + 1
structure RwL (n : Nat) (A : Nat → Nat → Bool) (s k : Nat) (L : List Nat) (F : List (Nat × List Nat)) : Prop where
  rw : Rw n A s F
  on : ∀ i ∈ L, ∃ p, (i, p) ∈ F ∧ p.length = k + 1
  le : ∀ p ∈ F, p.2.length ≤ k + 1
  cl : ∀ p ∈ F, p.1 ∉ L → ClR n A F p.1 p.2
structure RwM (n : Nat) (A : Nat → Nat → Bool) (s k : Nat) (L D : List Nat) (c : Nat) (F : List (Nat × List Nat)) (M : List Nat) : Prop where
  rw : Rw n A s F
  on : ∀ i ∈ L, ∃ p, (i, p) ∈ F ∧ p.length = k + 1
  le : ∀ p ∈ F, p.2.length ≤ k + 2
  mm : ∀ j ∈ M, ∃ p, (j, p) ∈ F ∧ p.length = k + 2
  cl : ∀ p ∈ F, p.1 ∉ M → (p.1 ∉ L ∨ p.1 ∈ D) → ClR n A F p.1 p.2
  ln : F.length = c + M.length
theorem Rw.lt {F : List (Nat × List Nat)} (h : Rw n A s F) : ∀ p ∈ F, p.1 < n := fun p m => by
  obtain ⟨d, _, w⟩ := (h.way p m).walk
  exact w.lt.2
theorem RwL.first (hs : s < n) : RwL n A s 0 [s] [(s, [s])] := by
  refine ⟨⟨fun p m => ?_, by simp, by simp⟩, fun i m => ?_, fun p m => ?_, fun p m h => ?_⟩
  · rw [List.mem_singleton.mp m]; exact .one hs
  · rw [List.mem_singleton.mp m]; exact ⟨[s], by simp, rfl⟩
  · rw [List.mem_singleton.mp m]; exact Nat.le_refl _
  · rw [List.mem_singleton.mp m] at h; exact absurd (List.mem_singleton.mpr rfl) h
theorem RwL.go {k : Nat} {L : List Nat} {F : List (Nat × List Nat)} (h : RwL n A s k L F) : RwM n A s k L [] F.length F [] :=
  ⟨h.rw, h.on, fun p m => Nat.le_succ_of_le (h.le p m), fun j m => (by cases m), fun p m _ h2 => h.cl p m (h2.resolve_right fun m => by cases m), rfl⟩
theorem RwM.add {k c i j : Nat} {L D M : List Nat} {F : List (Nat × List Nat)} {p : List Nat} (h : RwM n A s k L D c F M) (hp : (i, p) ∈ F) (hk : p.length = k + 1) (ha : A i j = true) (hj : j < n) (hn : ∀ p ∈ F, p.1 ≠ j) : RwM n A s k L D c (F ++ [(j, p ++ [j])]) (M ++ [j]) := by
  have up : ∀ x ∈ F, x ∈ F ++ [(j, p ++ [j])] := fun x m => List.mem_append_left _ m
  refine ⟨⟨fun x m => ?_, nd_snoc h.rw.nd hn, up _ h.rw.st⟩, fun a m => ?_, fun x m => ?_, fun a m => ?_, fun x m h1 h2 => ?_, ?_⟩
  · rcases List.mem_append.mp m with m | m
    · exact h.rw.way x m
    · rw [List.mem_singleton.mp m]
      exact .more (h.rw.way _ hp) ha hj
  · obtain ⟨q, m1, m2⟩ := h.on a m
    exact ⟨q, up _ m1, m2⟩
  · rcases List.mem_append.mp m with m | m
    · exact h.le x m
    · rw [List.mem_singleton.mp m]
      show (p ++ [j]).length ≤ k + 2
      rw [List.length_append, hk]
      exact Nat.le_refl _
  · rcases List.mem_append.mp m with m | m
    · obtain ⟨q, m1, m2⟩ := h.mm a m
      exact ⟨q, up _ m1, m2⟩
    · rw [List.mem_singleton.mp m]
      exact ⟨_, List.mem_append_right _ (List.mem_singleton.mpr rfl), by rw [List.length_append, hk]; rfl⟩
  · rcases List.mem_append.mp m with m | m
    · intro b hb hab
      obtain ⟨q, m1, m2⟩ := h.cl x m (fun m3 => h1 (List.mem_append_left _ m3)) h2 b hb hab
      exact ⟨q, up _ m1, m2⟩
    · rw [List.mem_singleton.mp m] at h1
      exact absurd (List.mem_append_right _ (List.mem_singleton.mpr rfl)) h1
  · rw [List.length_append, List.length_append, h.ln]
    simp only [List.length_cons, List.length_nil]
    omega
theorem RwM.room {k c i : Nat} {L D M : List Nat} {F : List (Nat × List Nat)} (h : RwM n A s k L D c F M) (hi : i ∈ L) (hc : ∀ j, j < n → A i j = true → ∃ q, (j, q) ∈ F) : RwM n A s k L (D ++ [i]) c F M := by
  refine ⟨h.rw, h.on, h.le, h.mm, fun x m h1 h2 => ?_, h.ln⟩
  rcases h2 with h2 | h2
  · exact h.cl x m h1 (.inl h2)
  · rcases List.mem_append.mp h2 with h2 | h2
    · exact h.cl x m h1 (.inr h2)
    · have e := List.mem_singleton.mp h2
      obtain ⟨p, m1, m2⟩ := h.on i hi
      have ep : x.2 = p := one_at h.rw.nd (i := i) (by rw [← e]; exact m) m1
      intro j hj ha
      rw [e] at ha
      obtain ⟨q, mq⟩ := hc j hj ha
      refine ⟨q, mq, ?_⟩
      rw [ep, m2]
      exact h.le _ mq
theorem RwM.next {k c : Nat} {L M : List Nat} {F : List (Nat × List Nat)} (h : RwM n A s k L L c F M) : RwL n A s (k + 1) M F :=
  ⟨h.rw, h.mm, h.le, fun p m h1 => h.cl p m h1 (by by_cases h2 : p.1 ∈ L; exact .inr h2; exact .inl h2)⟩
theorem RwL.out {k : Nat} {F : List (Nat × List Nat)} (h : RwL n A s k [] F) : (∀ p ∈ F, ∃ d, p.2.length = d + 1 ∧ Dst n A s p.1 d) ∧ ∀ d t, Hops n A d s t → ∃ p, (t, p) ∈ F := by
  have h0 : ∃ p, (s, p) ∈ F ∧ p.length = 0 + 1 := ⟨_, h.rw.st, rfl⟩
  have h2 : ∀ i d, (∃ p, (i, p) ∈ F ∧ p.length = d + 1) → ∀ j, j < n → A i j = true → ∃ e, e ≤ d + 1 ∧ ∃ p, (j, p) ∈ F ∧ p.length = e + 1 := fun i d ⟨p, m, e⟩ j hj ha => by
    obtain ⟨q, mq, hq⟩ := h.cl _ m (by simp) j hj ha
    obtain ⟨e', e2, _⟩ := (h.rw.way _ mq).walk
    have e2 : q.length = e' + 1 := e2
    have hq : q.length ≤ p.length + 1 := hq
    exact ⟨e', by omega, q, mq, e2⟩
  refine ⟨fun p m => ?_, fun d t w => ?_⟩
  · obtain ⟨d, e, w⟩ := (h.rw.way p m).walk
    refine ⟨d, e, bfs_dst (R := fun j d => ∃ p, (j, p) ∈ F ∧ p.length = d + 1) h0 (fun j d ⟨p, m, e⟩ => ?_) h2 (fun j d e ⟨p, m, e1⟩ ⟨q, mq, e2⟩ => ?_) ⟨p.2, m, e⟩⟩
    · obtain ⟨d', e', w⟩ := (h.rw.way _ m).walk
      have e' : p.length = d' + 1 := e'
      have : d' = d := by omega
      exact this ▸ w
    · rw [one_at h.rw.nd m mq] at e1
      omega
  · obtain ⟨e, _, p, m, _⟩ := bfs_all (R := fun j d => ∃ p, (j, p) ∈ F ∧ p.length = d + 1) h0 h2 w rfl
    exact ⟨p, m⟩
/-! how far, one after the other -/
structure Fa (n : Nat) (A : Nat → Nat → Bool) (s : Nat) (F : List (Nat × Nat)) (q : List Nat) : Prop where
  hop : ∀ p ∈ F, Hops n A p.2 s p.1
  nd : (F.map Prod.fst).Nodup
  st : (s, 0) ∈ F
  qs : ∀ i ∈ q, ∃ d, (i, d) ∈ F
  so : q.Pairwise fun a b => ∀ d e, (a, d) ∈ F → (b, e) ∈ F → d ≤ e
  top : ∀ p ∈ F, ∀ i ∈ q, ∀ d, (i, d) ∈ F → p.2 ≤ d + 1
  cl : ∀ p ∈ F, p.1 ∉ q → ∀ j, j < n → A p.1 j = true → ∃ e, e ≤ p.2 + 1 ∧ (j, e) ∈ F
structure FaM (n : Nat) (A : Nat → Nat → Bool) (s i d : Nat) (F : List (Nat × Nat)) (q : List Nat) : Prop where
  hop : ∀ p ∈ F, Hops n A p.2 s p.1
  nd : (F.map Prod.fst).Nodup
  st : (s, 0) ∈ F
  me : (i, d) ∈ F
  qs : ∀ i ∈ q, ∃ d, (i, d) ∈ F
  so : q.Pairwise fun a b => ∀ d e, (a, d) ∈ F → (b, e) ∈ F → d ≤ e
  top : ∀ p ∈ F, p.2 ≤ d + 1
  ge : ∀ a ∈ q, ∀ e, (a, e) ∈ F → d ≤ e
  cl : ∀ p ∈ F, p.1 ∉ q → p.1 ≠ i → ∀ j, j < n → A p.1 j = true → ∃ e, e ≤ p.2 + 1 ∧ (j, e) ∈ F
theorem Fa.first (hs : s < n) : Fa n A s [(s, 0)] [s] := by
  refine ⟨fun p m => ?_, by simp, by simp, fun i m => ?_, by simp, fun p m i mi d md => ?_, fun p m h => ?_⟩
  · rw [List.mem_singleton.mp m]; exact .nil hs
  · rw [List.mem_singleton.mp m]; exact ⟨0, by simp⟩
  · rw [List.mem_singleton.mp m]; exact Nat.zero_le _
  · rw [List.mem_singleton.mp m] at h; exact absurd (List.mem_singleton.mpr rfl) h
theorem Fa.pop {i : Nat} {F : List (Nat × Nat)} {r : List Nat} (h : Fa n A s F (i :: r)) : ∃ d, FaM n A s i d F r := by
  obtain ⟨d, m⟩ := h.qs i (List.mem_cons_self ..)
  have pw := List.pairwise_cons.mp h.so
  exact ⟨d, h.hop, h.nd, h.st, m, fun a ma => h.qs a (List.mem_cons_of_mem _ ma), pw.2, fun p mp => h.top p mp i (List.mem_cons_self ..) d m, fun a ma e me => pw.1 a ma d e m me, fun p mp h1 h2 => h.cl p mp fun h3 => (List.mem_cons.mp h3).elim h2 h1⟩
theorem FaM.add {i d j : Nat} {F : List (Nat × Nat)} {q : List Nat} (h : FaM n A s i d F q) (ha : A i j = true) (hj : j < n) (hn : ∀ p ∈ F, p.1 ≠ j) : FaM n A s i d (F ++ [(j, d + 1)]) (q ++ [j]) := by
  have up : ∀ x ∈ F, x ∈ F ++ [(j, d + 1)] := fun x m => List.mem_append_left _ m
  have old : ∀ a e, a ≠ j → (a, e) ∈ F ++ [(j, d + 1)] → (a, e) ∈ F := fun a e ne m => by
    rcases List.mem_append.mp m with m | m
    · exact m
    · exact absurd (congrArg Prod.fst (List.mem_singleton.mp m)) ne
  have qj : ∀ a ∈ q, a ≠ j := fun a ma e => by
    obtain ⟨x, mx⟩ := h.qs a ma
    exact hn _ mx e
  have newv : ∀ e, (j, e) ∈ F ++ [(j, d + 1)] → e = d + 1 := fun e m => by
    rcases List.mem_append.mp m with m | m
    · exact absurd rfl (hn _ m)
    · exact congrArg Prod.snd (List.mem_singleton.mp m)
  refine ⟨fun x m => ?_, nd_snoc h.nd hn, up _ h.st, up _ h.me, fun a m => ?_, ?_, fun x m => ?_, fun a m e me => ?_, fun x m h1 h2 => ?_⟩
  · rcases List.mem_append.mp m with m | m
    · exact h.hop x m
    · rw [List.mem_singleton.mp m]
      exact .snoc (h.hop _ h.me) ha hj
  · rcases List.mem_append.mp m with m | m
    · obtain ⟨x, mx⟩ := h.qs a m
      exact ⟨x, up _ mx⟩
    · rw [List.mem_singleton.mp m]
      exact ⟨d + 1, List.mem_append_right _ (List.mem_singleton.mpr rfl)⟩
  · refine List.pairwise_append.mpr ⟨?_, List.pairwise_singleton _ _, fun a ma b mb x y mx my => ?_⟩
    · refine List.Pairwise.imp_of_mem (fun {a b} ma mb hab x y mx my => hab x y (old _ _ (qj a ma) mx) (old _ _ (qj b mb) my)) h.so
    · rw [List.mem_singleton.mp mb] at my
      rw [newv y my]
      exact h.top _ (old _ _ (qj a ma) mx)
  · rcases List.mem_append.mp m with m | m
    · exact h.top x m
    · rw [List.mem_singleton.mp m]
      exact Nat.le_refl _
  · rcases List.mem_append.mp m with m | m
    · exact h.ge a m e (old _ _ (qj a m) me)
    · rw [List.mem_singleton.mp m] at me
      rw [newv e me]
      omega
  · rcases List.mem_append.mp m with m | m
    · intro b hb hab
      obtain ⟨e, l, me⟩ := h.cl x m (fun m3 => h1 (List.mem_append_left _ m3)) h2 b hb hab
      exact ⟨e, l, up _ me⟩
    · rw [List.mem_singleton.mp m] at h1
      exact absurd (List.mem_append_right _ (List.mem_singleton.mpr rfl)) h1
theorem FaM.done {i d : Nat} {F : List (Nat × Nat)} {q : List Nat} (h : FaM n A s i d F q) (hc : ∀ j, j < n → A i j = true → ∃ e, (j, e) ∈ F) : Fa n A s F q := by
  refine ⟨h.hop, h.nd, h.st, h.qs, h.so, fun p m a ma e me => Nat.le_trans (h.top p m) (Nat.succ_le_succ (h.ge a ma e me)), fun p m h1 j hj ha => ?_⟩
  by_cases e : p.1 = i
  · have ed : p.2 = d := one_at h.nd (i := i) (by rw [← e]; exact m) h.me
    rw [e] at ha
    obtain ⟨x, mx⟩ := hc j hj ha
    exact ⟨x, by rw [ed]; exact h.top _ mx, mx⟩
  · exact h.cl p m h1 e j hj ha
theorem Fa.out {F : List (Nat × Nat)} (h : Fa n A s F []) : (∀ p ∈ F, Dst n A s p.1 p.2) ∧ ∀ d t, Hops n A d s t → ∃ e, (t, e) ∈ F := by
  have h2 : ∀ i d, (i, d) ∈ F → ∀ j, j < n → A i j = true → ∃ e, e ≤ d + 1 ∧ (j, e) ∈ F := fun i d m j hj ha => h.cl _ m (by simp) j hj ha
  refine ⟨fun p m => bfs_dst (R := fun j d => (j, d) ∈ F) h.st (fun j d m => h.hop _ m) h2 (fun j d e m1 m2 => one_at h.nd m1 m2) m, fun d t w => ?_⟩
  obtain ⟨e, _, m⟩ := bfs_all (R := fun j d => (j, d) ∈ F) h.st h2 w rfl
  exact ⟨e, m⟩
theorem Fa.lt {F : List (Nat × Nat)} {q : List Nat} (h : Fa n A s F q) : ∀ p ∈ F, p.1 < n := fun p m => (h.hop p m).lt.2
theorem FaM.lt {i d : Nat} {F : List (Nat × Nat)} {q : List Nat} (h : FaM n A s i d F q) : ∀ p ∈ F, p.1 < n := fun p m => (h.hop p m).lt.2
end
/-! dicts -/
def dKs {α : Type} (rs : List Str) (F : List (Nat × α)) : List Ky := F.map fun p => Sum.inr (nm rs p.1)
def dXs {α : Type} (f : α → D) (F : List (Nat × α)) : List D := F.map fun p => f p.2
theorem look_at {α : Type} {rs : List Str} {f : α → D} (nd : rs.Nodup) {j : Nat} (hj : j < rs.length) : ∀ {F : List (Nat × α)}, (∀ p ∈ F, p.1 < rs.length) → lookD (dKs rs F) (dXs f F) (.inr (nm rs j)) = (F.lookup j).map f
  | [], _ => rfl
  | (a, x) :: F, h => by
    have ih := look_at (f := f) nd hj (F := F) fun p m => h p (List.mem_cons_of_mem _ m)
    have ha : a < rs.length := h _ (List.mem_cons_self ..)
    show (if (Sum.inr (nm rs a) : Ky) = .inr (nm rs j) then some (f x) else lookD (dKs rs F) (dXs f F) (.inr (nm rs j))) = _
    rw [List.lookup_cons]
    by_cases e : a = j
    · subst e
      simp
    · have e2 : ¬ (nm rs a = nm rs j) := fun h => e (nm_inj nd ha hj h)
      have e3 : (j == a) = false := by rw [beq_eq_false_iff_ne]; exact fun h => e h.symm
      rw [if_neg (fun h => e2 (Sum.inr.inj h)), ih, e3]
theorem look_none {α : Type} {j : Nat} : ∀ {F : List (Nat × α)}, F.lookup j = none ↔ ∀ p ∈ F, p.1 ≠ j
  | [] => by simp
  | (a, x) :: F => by
    rw [List.lookup_cons]
    by_cases e : a = j
    · subst e
      simp
    · have e3 : (j == a) = false := by rw [beq_eq_false_iff_ne]; exact fun h => e h.symm
      rw [e3]
      simp [look_none (F := F), e]
theorem look_mem {α : Type} {j : Nat} {x : α} : ∀ {F : List (Nat × α)}, F.lookup j = some x → (j, x) ∈ F
  | [], h => by cases h
  | (a, y) :: F, h => by
    rw [List.lookup_cons] at h
    by_cases e : a = j
    · subst e
      simp at h
      subst h
      exact List.mem_cons_self ..
    · have e3 : (j == a) = false := by rw [beq_eq_false_iff_ne]; exact fun h => e h.symm
      rw [e3] at h
      exact List.mem_cons_of_mem _ (look_mem h)
theorem mem_look {α : Type} {F : List (Nat × α)} (nd : (F.map Prod.fst).Nodup) {j : Nat} {x : α} (m : (j, x) ∈ F) : F.lookup j = some x := by
  cases h : F.lookup j with
  | none => exact absurd rfl (look_none.mp h _ m)
  | some y => rw [one_at nd (look_mem h) m]
theorem put_new {α : Type} {rs : List Str} {f : α → D} (nd : rs.Nodup) {j : Nat} {x : α} (hj : j < rs.length) {F : List (Nat × α)} (hF : ∀ p ∈ F, p.1 < rs.length) (h : F.lookup j = none) : putD (dKs rs F) (dXs f F) (.inr (nm rs j)) (f x) = .dic (dKs rs (F ++ [(j, x)])) (dXs f (F ++ [(j, x)])) := by
  have e : ((dKs rs F).any fun k' => decide (k' = .inr (nm rs j))) = false := by
    rw [Bool.eq_false_iff]
    intro h2
    obtain ⟨k, mk, e⟩ := List.any_eq_true.mp h2
    rw [decide_eq_true_iff] at e
    obtain ⟨p, mp, rfl⟩ := List.mem_map.mp mk
    exact look_none.mp h p mp (nm_inj nd (hF p mp) hj (Sum.inr.inj e))
  unfold putD
  rw [e]
  unfold dKs dXs
  simp
end Pu

set_option Elab.async false
set_option linter.all false
set_option maxRecDepth 100000
/-! Pu: a search with a pile: what hangs together with a room. -/
namespace Pu
section
variable {n : Nat} {A : Nat → Nat → Bool} {f : Nat → Bool} {s : Nat}
structure Dfs (n : Nat) (A : Nat → Nat → Bool) (f : Nat → Bool) (s : Nat) (P W : List Nat) : Prop where
  st : s ∈ P
  un : ∀ j ∈ P, j < n ∧ Path n A f s j
  nd : P.Nodup
  ws : ∀ j ∈ W, j ∈ P
  cl : ∀ i ∈ P, i ∉ W → ∀ j, j < n → A i j = true → f j = true → j ∈ P
structure DfsM (n : Nat) (A : Nat → Nat → Bool) (f : Nat → Bool) (s x : Nat) (P W : List Nat) : Prop where
  st : s ∈ P
  me : x ∈ P
  un : ∀ j ∈ P, j < n ∧ Path n A f s j
  nd : P.Nodup
  ws : ∀ j ∈ W, j ∈ P
  cl : ∀ i ∈ P, i ∉ W → i ≠ x → ∀ j, j < n → A i j = true → f j = true → j ∈ P
theorem Dfs.first (hs : s < n) : Dfs n A f s [s] [s] := by
  refine ⟨by simp, fun j m => ?_, by simp, fun j m => m, fun i m h => absurd m h⟩
  rw [List.mem_singleton.mp m]
  exact ⟨hs, .refl _⟩
theorem Dfs.pop {x : Nat} {P W : List Nat} (h : Dfs n A f s P (W ++ [x])) : DfsM n A f s x P W :=
  ⟨h.st, h.ws x (by simp), h.un, h.nd, fun j m => h.ws j (List.mem_append_left _ m), fun i m h1 h2 => h.cl i m fun h3 => (List.mem_append.mp h3).elim h1 fun h4 => h2 (List.mem_singleton.mp h4)⟩
theorem DfsM.add {x j : Nat} {P W : List Nat} (h : DfsM n A f s x P W) (hj : j < n) (ha : A x j = true) (hf : f j = true) (hn : j ∉ P) : DfsM n A f s x (P ++ [j]) (W ++ [j]) := by
  have up : ∀ i ∈ P, i ∈ P ++ [j] := fun i m => List.mem_append_left _ m
  refine ⟨up _ h.st, up _ h.me, fun i m => ?_, ?_, fun i m => ?_, fun i m h1 h2 k hk hak hfk => ?_⟩
  · rcases List.mem_append.mp m with m | m
    · exact h.un i m
    · rw [List.mem_singleton.mp m]
      exact ⟨hj, .step (h.un x h.me).2 ha hf hj⟩
  · refine List.nodup_append.mpr ⟨h.nd, by simp, fun a ma b mb e => hn ?_⟩
    rw [← List.mem_singleton.mp mb, ← e]
    exact ma
  · rcases List.mem_append.mp m with m | m
    · exact up _ (h.ws i m)
    · exact List.mem_append_right _ m
  · rcases List.mem_append.mp m with m | m
    · exact up _ (h.cl i m (fun h3 => h1 (List.mem_append_left _ h3)) h2 k hk hak hfk)
    · exact absurd (List.mem_append_right _ m) h1
theorem DfsM.done {x : Nat} {P W : List Nat} (h : DfsM n A f s x P W) (hc : ∀ j, j < n → A x j = true → f j = true → j ∈ P) : Dfs n A f s P W :=
  ⟨h.st, h.un, h.nd, h.ws, fun i m h1 => by
    by_cases e : i = x
    · subst e; exact hc
    · exact h.cl i m h1 e⟩
theorem DfsM.few {x : Nat} {P W : List Nat} (h : DfsM n A f s x P W) : P.length ≤ n := by
  have := few_sub h.nd (m := List.range n) fun x m => List.mem_range.mpr (h.un x m).1
  rwa [List.length_range] at this
theorem Dfs.few {P W : List Nat} (h : Dfs n A f s P W) : P.length ≤ n := by
  have := few_sub h.nd (m := List.range n) fun x m => List.mem_range.mpr (h.un x m).1
  rwa [List.length_range] at this
theorem Dfs.out {P : List Nat} (h : Dfs n A f s P []) {j : Nat} : j ∈ P ↔ j < n ∧ Path n A f s j := by
  have : ∀ k, Path n A f s k → k ∈ P := by
    intro k p
    induction p with
    | refl => exact h.st
    | step p a b c ih => exact h.cl _ ih (by simp) _ c a b
  exact ⟨h.un j, fun q => this j q.2⟩
/-- a room is the least of what hangs together with it -/
theorem rep_iff {i : Nat} (hi : i < n) (hf : f i = true) : isRep n A f i = true ↔ ¬ ∃ x, x ∈ nums i (isRep n A f) ∧ conn n A f x i = true := by
  constructor
  · rintro h ⟨x, m, c⟩
    obtain ⟨m1, m2⟩ := mem_nums.mp m
    have hr : i ∈ reps n A f := mem_nums.mpr ⟨hi, h⟩
    have hx : f x = true := by
      unfold isRep at m2
      rw [Bool.and_eq_true] at m2
      exact m2.1
    exact rep_only hr hx m1 (conn_iff.mp c)
  · intro h
    obtain ⟨r, h1, h2, h3⟩ := rep_of (A := A) hi hf
    rcases Nat.lt_or_eq_of_le h1 with h4 | h4
    · exact absurd ⟨r, mem_nums.mpr ⟨h4, (mem_nums.mp h2).2⟩, conn_iff.mpr h3⟩ h
    · rw [← h4]
      exact (mem_nums.mp h2).2
theorem nums_succ {p : Nat → Bool} {i : Nat} : nums (i + 1) p = nums i p ++ (if p i = true then [i] else []) := by
  unfold nums
  rw [List.range_succ, List.filter_append]
  congr 1
  by_cases h : p i = true <;> simp [h]
end
end Pu

set_option Elab.async false
set_option linter.all false
set_option maxRecDepth 100000
/-! Pu: a comprehension over a list of one's own that is to be changed later on. -/
namespace Pu
open PySem L2 PySem.Spec PyProof.Rows
@[simp] def ownL : Option Sl → Option (List D)
  | some (.ow (.lst ds)) => some ds
  | some (.io _ (.lst ds)) => some ds
  | _ => none
theorem ownL_of {s : Option Sl} {ds : List D} (h : ownL s = some ds) : lent s = some (.lst ds) := by
  match s, h with
  | some (.ow (.lst ds)), h => cases h; rfl
  | some (.io _ (.lst ds)), h => cases h; rfl
def wLcR (j : Nat) (g : WG) (tt : WT) (te : WE) (vs : List Nat) : WE := fun E ρ Q => j ∉ vs ∧ withO (ownL ρ[j]?) fun items => ∃ W : Nat → List D → En → Prop, W 0 [] (wipeE ρ vs) ∧
  (∀ i x acc ρ', items[i]? = some x → W i acc ρ' → ownL ρ'[j]? = some items ∧ g (.fz x) ρ' fun ρ2 => tt noEX ρ2 fun b ρ3 =>
    if b = true then te noEX ρ3 fun s ρ4 => s.fr fun d => acc.length < sizeLine ∧ W (i + 1) (acc ++ [d]) (wipeE ρ4 vs) else W (i + 1) acc (wipeE ρ3 vs)) ∧
  ∀ acc ρ', W items.length acc ρ' → ownL ρ'[j]? = some items ∧ Q (.ow (.lst acc)) (backE ρ ρ' vs)
section
variable {F : Fm} {x : Str} {pos : Pos}
theorem own_at {B : Bs} {σ : L2.St} {H : Hp} {ρ : En} {Z : Hp} {j : Nat} {ds : List D} (S : St1 F.K B σ H ρ Z []) (e : ownL ρ[j]? = some ds) : ∃ p vs, σ[j]? = some (some (.ref p)) ∧ SqL F.K H p vs ∧ RpL F.K Z vs ds := by
  obtain ⟨p, o, h1, h2, h3, _⟩ := lent_write S (ownL_of e)
  cases o with
  | lst vs => exact ⟨p, vs, h1, .of h2, h3⟩
  | _ => exact (show False from h3).elim
theorem lcR_ok {scope : Scope} {j : Nat} {g : WG} {wt : WT} {we : WE} {vs : List Nat} {tg : TG} {tt : TT} {te : TE} (hg : LG (F.blk scope) tg g vs) (ht : LT (F.blk scope) tt wt) (he : LE (F.blk scope) te we) : LE F (tLc (iSqV F.K (tVar j)) tg tt te vs) (wLcR j g wt we vs) := by
  refine LE.of fun B σ H ρ Z Q Q' E S X hw q => ?_
  obtain ⟨hj, hw⟩ := hw
  obtain ⟨items, eo, W, w0, ws, wz⟩ := withO_of hw
  obtain ⟨p, vs0, ep, sq0, rl0⟩ := own_at S eo
  refine ⟨.ref p, ep, p, vs0, rfl, .inl ⟨sq0, fun D hD => ?_⟩⟩
  obtain ⟨B', S', back⟩ := S.base
  have SD : St1 F.K B' σ (upd H D (.lst [])) ρ Z [(.ref D, .ow (.lst []))] := S'.alloc1 (o := .lst []) (d := .lst []) hD .nil
  refine ⟨fun i m H => ∃ acc ρ Z, St1 F.K B' (wipe σ vs) H ρ Z [(.ref D, .ow (.lst acc))] ∧ i ≤ items.length ∧ m = items.length - i ∧ W i acc ρ, ⟨_, [], _, Z, SD.wipe vs, Nat.zero_le _, rfl, w0⟩, ?_⟩
  rintro i m H2 ⟨acc, ρ2, Z2, S2, hi, rfl, hW⟩
  have le2 := (back _ _ _ _ _ S2).2
  obtain ⟨B3, S3, back3⟩ := S2.hold (.inr ⟨_, rfl⟩)
  have here : ∀ ρ2, St1 F.K B3 (wipe σ vs) H2 ρ2 Z2 [] → ownL ρ2[j]? = some items → ∃ us, SqL F.K H2 p us ∧ RpL F.K Z2 us items := fun ρ2 S3 eo2 => by
    obtain ⟨p', us, e1, e2, e3⟩ := own_at S3 eo2
    rw [wipe_out hj, ep] at e1
    cases e1
    exact ⟨us, e2, e3⟩
  by_cases hlt : i < items.length
  · have e : items[i]? = some items[i] := by simp [hlt]
    obtain ⟨eo2, hb⟩ := ws i _ acc ρ2 e hW
    obtain ⟨us, sq, rl⟩ := here ρ2 S3 eo2
    obtain ⟨u, e2, ru⟩ := rl.get e
    refine .inr ⟨⟨us, u, sq, e2⟩, fun H' => ∃ acc' ρ' Z', St1 F.K B' (wipe σ vs) H' ρ' Z' [(.ref D, .ow (.lst acc'))] ∧ W (i + 1) acc' ρ', fun H' ⟨acc', ρ', Z', S', hW'⟩ => ⟨items.length - (i + 1), by omega, acc', ρ', Z', S', hlt, rfl, hW'⟩, fun x H' y => ?_⟩
    obtain ⟨rfl, y⟩ := y
    have := y us sq
    rw [e2] at this
    cases this
    refine hg B3 (wipe σ vs) _ ρ2 Z2 u _ _ _ (S3.have ru) hb fun σ4 H4 ρ4 Z4 S4 _ w4 hw => ?_
    rw [wipe_wipe] at w4
    refine ⟨w4, ht B3 σ4 H4 ρ4 Z4 _ _ noEX S4 no_ex hw fun b H5 ρ5 Z5 S5 _ hw => ?_⟩
    cases b with
    | false =>
      have S6 := S5.wipe vs
      rw [w4] at S6
      exact ⟨acc, _, _, (back3 _ _ _ _ _ S6).1, hw⟩
    | true =>
      refine he B3 σ4 H5 ρ5 Z5 _ _ noEX S5 no_ex hw fun y s H6 ρ6 Z6 S6 _ hw => ?_
      obtain ⟨d, hs, hz, hw⟩ := fr_of hw
      obtain ⟨Z7, _, S7, r7⟩ := S6.thaw1 hs
      have S8 := S7.wipe vs
      rw [w4] at S8
      have S9 := (back3 _ _ _ _ _ S8).1
      obtain ⟨o, ho, ro, put⟩ := S9.writeT
      cases o with
      | lst accV =>
        have ro : RpL F.K Z7 accV acc := ro
        refine ⟨accV, ho, by rw [ro.len]; exact hz, acc ++ [d], _, Z7, put (.lst (accV ++ [y])) (.lst (acc ++ [d])) (ro.snoc r7), hw⟩
      | _ => exact (show False from ro).elim
  · have e : i = items.length := by omega
    subst e
    obtain ⟨eo2, hq⟩ := wz acc ρ2 hW
    obtain ⟨us, sq, rl⟩ := here ρ2 S3 eo2
    refine .inl ⟨⟨us, sq, Nat.le_of_eq rl.len⟩, ?_⟩
    exact q _ _ H2 _ Z2 (S.unwipe (back _ _ _ _ _ S2).1 le2) hq
theorem re_lcR {elt tg : Expr} {npos : Pos} {ifs : List Expr} {scope : Scope} {own : List (Str × Nat)} (j : Nat) {g : WG} {wt : WT} {we : WE} (ok : ∀ i, BlkOk (F.X i).N (F.X i).env.scope scope own) (hg : RG (F.blk scope) tg g (own.map (·.2))) (ht : RTs (F.blk scope) ifs wt) (he : RE (F.blk scope) elt we)
    (hN : ∀ i, (F.X i).N[j]? = some x := by intro _; rfl) (hv : ∀ j, Vis (F.X j).env.scope x := by intro _; first | exact Or.inl rfl | exact Or.inr (Or.inl rfl) | exact Or.inr (Or.inr rfl)) (hd : (x == ("__debug__" : Str)) = false := by decide) (hcd : (x == ("__classdict__" : Str)) = false := by decide)
    (hs : ∀ i y, foldedSetIterable (.Name x npos) (F.X i).env y = pure y := by intro _ _; rfl) : RE F (.ListComp elt [⟨tg, .Name x npos, ifs, 0⟩] scope pos) (wLcR j g wt we (own.map (·.2))) := by
  obtain ⟨tg', g1, g2⟩ := hg
  obtain ⟨tt, t1, t2⟩ := ht
  obtain ⟨te, e1, e2⟩ := he
  exact ⟨_, fun i => pe_lc (F.calm i) (F.nd i) (by rw [← F.hK i]; exact pi_sq (pe_var (hN i) (hv i) hd hcd)) (ok i) (fun s H C cl fp => g1 (i, s, H, C, cl, fp)) (fun s H C cl fp => t1 (i, s, H, C, cl, fp)) (fun s H C cl fp => e1 (i, s, H, C, cl, fp)) (hs i), lcR_ok g2 t2 e2⟩
end
theorem lcRM {α : Type} {j : Nat} {g : WG} {te : WE} {vs : List Nat} {E : EX} {ρ : En} {Q : Sl → En → Prop} (its : List α) (it : α → D) (v : α → D) (hj : ownL ρ[j]? = some (its.map it)) (hv : j ∉ vs) (hl : its.length ≤ sizeLine)
    (hb : ∀ x ∈ its, ∀ P : D → En → Prop, P (v x) (wipeE ρ vs) → g (.fz (it x)) (wipeE ρ vs) fun ρ2 => te noEX ρ2 fun s ρ4 => s.fr fun d => P d (wipeE ρ4 vs))
    (hq : Q (.ow (.lst (its.map v))) (backE ρ (wipeE ρ vs) vs)) : wLcR j g tYes te vs E ρ Q := by
  refine ⟨hv, ?_⟩
  rw [hj]
  refine ⟨fun i acc ρ' => ρ' = wipeE ρ vs ∧ acc = (its.take i).map v, ⟨rfl, rfl⟩, ?_, ?_⟩
  · rintro i x acc ρ' e ⟨rfl, rfl⟩
    rw [List.getElem?_map] at e
    obtain ⟨a, ea, rfl⟩ := Option.map_eq_some_iff.mp e
    have hi := (List.getElem?_eq_some_iff.mp ea).1
    refine ⟨by rw [wipeE_out hv]; exact hj, ?_⟩
    have ht : its.take (i + 1) = its.take i ++ [a] := by rw [List.take_add_one, ea]; rfl
    have := hb a (List.mem_of_getElem? ea) (fun d ρ' => ((its.take i).map v).length < sizeLine ∧ ρ' = wipeE ρ vs ∧ (its.take i).map v ++ [d] = (its.take (i + 1)).map v) ⟨by rw [List.length_map]; exact Nat.lt_of_le_of_lt (List.length_take_le i its) (Nat.lt_of_lt_of_le hi hl), rfl, by rw [ht, List.map_append]; rfl⟩
    exact this
  · rintro acc ρ' ⟨rfl, rfl⟩
    refine ⟨by rw [wipeE_out hv]; exact hj, ?_⟩
    rw [List.length_map, List.take_of_length_le (Nat.le_refl _)]
    exact hq
end Pu

set_option Elab.async false
set_option linter.all false
set_option maxRecDepth 100000
set_option maxHeartbeats 4000000
/-! K01: the defs as programs over plain data, and that they are (printed by gen.py). -/
namespace K01
open PySem L2 PySem.Spec PyProof.Rows Pu
def top (i : Nat) : Stmt := PySem.Challenge.pw_nowheretohide_k01_whole_parts_and_ways.main.body.getD i (.Pass ⟨0, 0, 0, 0⟩)
abbrev s_is_name : Stmt := top 10
abbrev s_check_house : Stmt := top 18
abbrev s_check_room : Stmt := top 19
abbrev s_is_lot_of : Stmt := top 20
abbrev s_check_lot : Stmt := top 21
abbrev s_is_lot : Stmt := top 22
abbrev s_bits_of : Stmt := top 23
abbrev s_lot_of : Stmt := top 24
abbrev s_near_of : Stmt := top 25
abbrev s_around : Stmt := top 26
abbrev s_edge_of : Stmt := top 27
abbrev s_part_from : Stmt := top 28
abbrev s_parts_of : Stmt := top 29
abbrev s_parts : Stmt := top 30
abbrev s_is_joined : Stmt := top 31
abbrev s_beside : Stmt := top 32
abbrev s_rows_from : Stmt := top 33
abbrev s_way : Stmt := top 34
abbrev s_is_row_of : Stmt := top 35
abbrev s_shows_way : Stmt := top 36
abbrev s_has_door : Stmt := top 37
abbrev s__law_pot : Stmt := top 39
abbrev s__law_take : Stmt := top 40
abbrev s__law_of : Stmt := top 41
abbrev s__law_cells : Stmt := top 42
abbrev s__law_some : Stmt := top 43
abbrev s__law_name : Stmt := top 44
abbrev s__law_names : Stmt := top 45
abbrev s__law_house : Stmt := top 46
abbrev s__law_text : Stmt := top 47
abbrev s__law_near : Stmt := top 48
abbrev s__law_parts : Stmt := top 49
abbrev s__law_lot : Stmt := top 50
abbrev s__law_bent : Stmt := top 51
abbrev s__law_far : Stmt := top 52
abbrev s__law_is_way : Stmt := top 53
abbrev s__law_right : Stmt := top 54
abbrev s_law : Stmt := top 55
abbrev sR_init : Stmt := inClass (top 16) 0
abbrev sR_takes : Stmt := inClass (top 16) 1
abbrev sR_room : Stmt := inClass (top 16) 2
abbrev sR_told : Stmt := inClass (top 16) 3
abbrev sH_init : Stmt := inClass (top 17) 0
abbrev sH_text : Stmt := inClass (top 17) 2
abbrev sH_rooms : Stmt := inClass (top 17) 3
abbrev sH_doors : Stmt := inClass (top 17) 4
/-- a def of the module -/
structure Fd (K : PySem.W.Frag) (mg : Str → Option Value) (nm : Str) (st : Stmt) where
  f : Addr
  fd : FuncData
  m : mg nm = some (.ref f)
  k : PySem.W.keepIn K (.ref f) = true
  T : Fun K nm nm st f fd
/-- a def of a class -/
structure Mdf (K : PySem.W.Frag) (nm qual : Str) (st : Stmt) where
  f : Addr
  fd : FuncData
  T : Fun K nm qual st f fd
/-- what the text's top has made -/
structure Txt (K : PySem.W.Frag) (mg : Str → Option Value) where
  C : Addr
  cl : Cls K C
  mH : mg "House" = some (.ref C)
  ic : InsOf K C
  pa_doors : Addr
  ga_doors : Addr
  fg_doors : FuncData
  p_doors : PropOf K C "doors" pa_doors ga_doors
  g_doors : ∀ {P : Program} {w : World} {base : Heap}, FnOk P w K mg base CX0 1 ga_doors fg_doors ["self"] (getSp C "own_doors")
  b_doors : Binds K fg_doors ["self"] []
  pa_rooms : Addr
  ga_rooms : Addr
  fg_rooms : FuncData
  p_rooms : PropOf K C "rooms" pa_rooms ga_rooms
  g_rooms : ∀ {P : Program} {w : World} {base : Heap}, FnOk P w K mg base CX0 1 ga_rooms fg_rooms ["self"] (getSp C "own_rooms")
  b_rooms : Binds K fg_rooms ["self"] []
  pa_text : Addr
  ga_text : Addr
  fg_text : FuncData
  p_text : PropOf K C "text" pa_text ga_text
  g_text : ∀ {P : Program} {w : World} {base : Heap}, FnOk P w K mg base CX0 1 ga_text fg_text ["self"] (getSp C "own_text")
  b_text : Binds K fg_text ["self"] []
  CR : Addr
  clR : Cls K CR
  mR : mg "Reader" = some (.ref CR)
  noR_rooms : NoAttr K CR "own_rooms"
  noR_doors : NoAttr K CR "own_doors"
  m_init : Mdf K "__init__" "Reader.__init__" sR_init
  m_takes : Mdf K "takes" "Reader.takes" sR_takes
  m_room : Mdf K "takes_room" "Reader.takes_room" sR_room
  m_told : Mdf K "told_doors" "Reader.told_doors" sR_told
  h_init : Mdf K "__init__" "House.__init__" sH_init
  mkR : Mk K CR m_init.f
  mkH : Mk K C h_init.f
  mt_takes : Meth K CR "takes" m_takes.f
  mt_room : Meth K CR "takes_room" m_room.f
  mt_told : Meth K CR "told_doors" m_told.f
  noH_text : NoAttr K C "own_text"
  noH_rooms : NoAttr K C "own_rooms"
  noH_doors : NoAttr K C "own_doors"
  f_is_name : Fd K mg "is_name" s_is_name
  f_check_house : Fd K mg "check_house" s_check_house
  f_check_room : Fd K mg "check_room" s_check_room
  f_is_lot_of : Fd K mg "is_lot_of" s_is_lot_of
  f_check_lot : Fd K mg "check_lot" s_check_lot
  f_is_lot : Fd K mg "is_lot" s_is_lot
  f_bits_of : Fd K mg "bits_of" s_bits_of
  f_lot_of : Fd K mg "lot_of" s_lot_of
  f_near_of : Fd K mg "near_of" s_near_of
  f_around : Fd K mg "around" s_around
  f_edge_of : Fd K mg "edge_of" s_edge_of
  f_part_from : Fd K mg "part_from" s_part_from
  f_parts_of : Fd K mg "parts_of" s_parts_of
  f_parts : Fd K mg "parts" s_parts
  f_is_joined : Fd K mg "is_joined" s_is_joined
  f_beside : Fd K mg "beside" s_beside
  f_rows_from : Fd K mg "rows_from" s_rows_from
  f_way : Fd K mg "way" s_way
  f_is_row_of : Fd K mg "is_row_of" s_is_row_of
  f_shows_way : Fd K mg "shows_way" s_shows_way
  f_has_door : Fd K mg "has_door" s_has_door
  f__law_pot : Fd K mg "_law_pot" s__law_pot
  f__law_take : Fd K mg "_law_take" s__law_take
  f__law_of : Fd K mg "_law_of" s__law_of
  f__law_cells : Fd K mg "_law_cells" s__law_cells
  f__law_some : Fd K mg "_law_some" s__law_some
  f__law_name : Fd K mg "_law_name" s__law_name
  f__law_names : Fd K mg "_law_names" s__law_names
  f__law_house : Fd K mg "_law_house" s__law_house
  f__law_text : Fd K mg "_law_text" s__law_text
  f__law_near : Fd K mg "_law_near" s__law_near
  f__law_parts : Fd K mg "_law_parts" s__law_parts
  f__law_lot : Fd K mg "_law_lot" s__law_lot
  f__law_bent : Fd K mg "_law_bent" s__law_bent
  f__law_far : Fd K mg "_law_far" s__law_far
  f__law_is_way : Fd K mg "_law_is_way" s__law_is_way
  f__law_right : Fd K mg "_law_right" s__law_right
  f_law : Fd K mg "law" s_law
  n_abs : mg "abs" = none
  n_all : mg "all" = none
  n_any : mg "any" = none
  n_enumerate : mg "enumerate" = none
  n_int : mg "int" = none
  n_isinstance : mg "isinstance" = none
  n_len : mg "len" = none
  n_list : mg "list" = none
  n_max : mg "max" = none
  n_min : mg "min" = none
  n_range : mg "range" = none
  n_repr : mg "repr" = none
  n_sorted : mg "sorted" = none
  n_str : mg "str" = none
  n_sum : mg "sum" = none
  n_tuple : mg "tuple" = none
  n_zip : mg "zip" = none
  c_FIGURES : ∃ t, mg "FIGURES" = some (.str "0123456789" t)
  c_LETTERS : ∃ t, mg "LETTERS" = some (.str "abcdefghijklmnopqrstuvwxyz" t)
  c_MOST_SIGNS : ∃ t, mg "MOST_SIGNS" = some (.int 8 t)
  c_DOOR : ∃ t, mg "DOOR" = some (.str "door" t)
  c_MOST_DOORS : ∃ t, mg "MOST_DOORS" = some (.int 60 t)
  c_ROOM : ∃ t, mg "ROOM" = some (.str "room" t)
  c_MOST_ROOMS : ∃ t, mg "MOST_ROOMS" = some (.int 16 t)
/-- the promises -/
structure Sps where
  is_name : DSp
  check_house : DSp
  check_room : DSp
  is_lot_of : DSp
  check_lot : DSp
  is_lot : DSp
  bits_of : DSp
  lot_of : DSp
  near_of : DSp
  around : DSp
  edge_of : DSp
  part_from : DSp
  parts_of : DSp
  parts : DSp
  is_joined : DSp
  beside : DSp
  rows_from : DSp
  way : DSp
  is_row_of : DSp
  shows_way : DSp
  has_door : DSp
  _law_pot : DSp
  _law_take : DSp
  _law_of : DSp
  _law_cells : DSp
  _law_some : DSp
  _law_name : DSp
  _law_names : DSp
  _law_house : DSp
  _law_text : DSp
  _law_near : DSp
  _law_parts : DSp
  _law_lot : DSp
  _law_bent : DSp
  _law_far : DSp
  _law_is_way : DSp
  _law_right : DSp
  law : DSp
  House : DSp
/-- House(e) -/
def HouseOk (K : PySem.W.Frag) (mg : Str → Option Value) (sp : DSp) : Prop := ∀ (F : Fm), F.K = K → (∀ i, (F.X i).mg = mg) → (∀ i, Room 6 (F.X i).A) → ∀ {e : Expr} {w : WE} {p pos : Pos}, RE F e w → (∀ i, Gl (F.X i) "House") →
  (∀ i, starEach [e] (F.X i).env = (false, eval e (F.X i).env) :: starEach [] (F.X i).env) → (∀ i, (backTo pos (starEach [] (F.X i).env)).any (·.1) = false) → RE F (.Call (.Name "House" p) [e] [] pos) (wCall sp (asV w asN))
def w_is_name (S : Sps) (C : Nat) : WS :=
  (wSeq (wIfS (tOr (tNot (tV (wIsTy "str" (rN 0)))) (tOr (tNot (tV (wChain kLt kLe (rE (wC (.int 0))) (rE (wB kLen (rsC (rN 0) rsN))) (rE (wC (.int 8)))))) (tV (wOp kNotIn (rE (wOp kIx (rN 0) (rE (wC (.int 0))))) (rE (wC (.str "abcdefghijklmnopqrstuvwxyz"))))))) (wRet (wC (.bl false))) wPass)
  (wRet (wB kAll (rsC (rE (wLc (iSt (wN 0)) (gN 1) tYes (wOr (wOp kIn (rN 1) (rE (wC (.str "abcdefghijklmnopqrstuvwxyz")))) (wOp kIn (rN 1) (rE (wC (.str "0123456789"))))) [1])) rsN))))
def w_check_house (S : Sps) (C : Nat) : WS :=
  (wIfS (tNot (tV (wIsC C (rN 0)))) wNever wPass)
def w_check_room (S : Sps) (C : Nat) : WS :=
  (wIfS (tOr (tNot (tV (wIsTy "str" (rN 1)))) (tV (wOp kNotIn (rN 1) (rE (wPropT C "own_rooms" (rN 0)))))) wNever wPass)
def w_is_lot_of (S : Sps) (C : Nat) : WS :=
  (wSeq (wIfS (tOr (tNot (tV (wIsTy "tuple" (rN 1)))) (tNot (tV (wB kAll (rsC (rE (wLc (iSq (wN 1)) (gN 2) tYes (wIsTy "str" (rN 2)) [2])) rsN))))) (wRet (wC (.bl false))) wPass)
  (wRet (wOp kEq (rN 1) (rE (wB kTuple (rsC (rE (wLc (iSq (wPropT C "own_rooms" (rN 0))) (gN 2) (tV (wOp kIn (rN 2) (rN 1))) (wN 2) [2])) rsN))))))
def w_check_lot (S : Sps) (C : Nat) : WS :=
  (wSeq (wDrop (wCall S.check_house (asApp (asV (wN 0) asN) asN)))
  (wIfS (tNot (tV (wCall S.is_lot_of (asApp (asV (wN 0) (asV (wN 1) asN)) asN)))) wNever wPass))
def w_is_lot (S : Sps) (C : Nat) : WS :=
  (wSeq (wDrop (wCall S.check_house (asApp (asV (wN 0) asN) asN)))
  (wRet (wCall S.is_lot_of (asApp (asV (wN 0) (asV (wN 1) asN)) asN))))
def w_bits_of (S : Sps) (C : Nat) : WS :=
  (wRet (wB kSum (rsC (rE (wLc (iEn (wPropT C "own_rooms" (rN 0))) (gTn 2 (gsC (gN 2) (gsC (gN 3) gsN))) (tV (wOp kIn (rN 3) (rN 1))) (wOp kShl (rE (wC (.int 1))) (rN 2)) [2, 3])) rsN)))
def w_lot_of (S : Sps) (C : Nat) : WS :=
  (wRet (wB kTuple (rsC (rE (wLc (iEn (wPropT C "own_rooms" (rN 0))) (gTn 2 (gsC (gN 2) (gsC (gN 3) gsN))) (tV (wOp kEq (rE (wOp kAnd (rE (wOp kShr (rN 1) (rN 2))) (rE (wC (.int 1))))) (rE (wC (.int 1))))) (wN 3) [2, 3])) rsN)))
def w_near_of (S : Sps) (C : Nat) : WS :=
  (wSeq (wSet 1 (wOp kMul (rE (wLst (vsC (wC (.int 0)) vsN))) (rE (wB kLen (rsC (rE (wPropT C "own_rooms" (rN 0))) rsN)))))
  (wSeq (wFor (iSq (wPropT C "own_doors" (rN 0))) (gTn 2 (gsC (gN 2) (gsC (gN 3) gsN))) (wSeq (wPar [4, 5] (hsC (wTIx (wProp C "own_rooms" (rN 0)) (rsC (rN 2) rsN)) (hsC (wTIx (wProp C "own_rooms" (rN 0)) (rsC (rN 3) rsN)) hsN)))
  (wAsg (gTn 2 (gsC (gIx 1 (rN 4)) (gsC (gIx 1 (rN 5)) gsN))) (wTup (vsC (wOp kOr (rE (wOp kIx (rN 1) (rN 4))) (rE (wOp kShl (rE (wC (.int 1))) (rN 5)))) (vsC (wOp kOr (rE (wOp kIx (rN 1) (rN 5))) (rE (wOp kShl (rE (wC (.int 1))) (rN 4)))) vsN))))))
  (wRet (wN 1))))
def w_around (S : Sps) (C : Nat) : WS :=
  (wSeq (wSet 2 (wC (.int 0)))
  (wSeq (wFor (iEn (wN 0)) (gTn 2 (gsC (gN 3) (gsC (gN 4) gsN))) (wIfS (tV (wOp kEq (rE (wOp kAnd (rE (wOp kShr (rN 1) (rN 3))) (rE (wC (.int 1))))) (rE (wC (.int 1))))) (wSet 2 (wOp kOr (rN 2) (rN 4))) wPass))
  (wRet (wN 2))))
def w_edge_of (S : Sps) (C : Nat) : WS :=
  (wRet (wOp kAnd (rE (wCall S.around (asApp (asV (wN 0) (asV (wN 1) asN)) asN))) (rE (wUn kInv (rN 1)))))
def w_part_from (S : Sps) (C : Nat) : WS :=
  (wSeq (wPar [3, 4] (hsC (wN 2) (hsC (wN 2) hsN)))
  (wSeq (wWhile (tV (wOp kNe (rN 4) (rE (wC (.int 0))))) (wSeq (wSet 4 (wOp kAnd (rE (wOp kAnd (rE (wCall S.around (asApp (asV (wN 0) (asV (wN 4) asN)) asN))) (rN 1))) (rE (wUn kInv (rN 3)))))
  (wSet 3 (wOp kOr (rN 3) (rN 4)))))
  (wRet (wN 3))))
def w_parts_of (S : Sps) (C : Nat) : WS :=
  (wSeq (wPar [2, 3] (hsC (wLst vsN) (hsC (wN 1) hsN)))
  (wSeq (wWhile (tV (wOp kNe (rN 3) (rE (wC (.int 0))))) (wSeq (wSet 4 (wCall S.part_from (asApp (asV (wN 0) (asV (wN 1) (asV (wOp kAnd (rN 3) (rE (wOp kSub (rE (wC (.int 0))) (rN 3)))) asN))) asN)))
  (wSeq (wDrop (wMut "list" kAppend 2 (vsC (wN 4) vsN)))
  (wSet 3 (wOp kAnd (rN 3) (rE (wUn kInv (rN 4))))))))
  (wRet (wN 2))))
def w_parts (S : Sps) (C : Nat) : WS :=
  (wSeq (wDrop (wCall S.check_lot (asApp (asV (wN 0) (asV (wN 1) asN)) asN)))
  (wSeq (wSet 2 (wOp kSub (rE (wOp kSub (rE (wOp kShl (rE (wC (.int 1))) (rE (wB kLen (rsC (rE (wPropT C "own_rooms" (rN 0))) rsN))))) (rE (wC (.int 1))))) (rE (wCall S.bits_of (asApp (asV (wN 0) (asV (wN 1) asN)) asN)))))
  (wRet (wB kTuple (rsC (rE (wLc (iSq (wCall S.parts_of (asApp (asV (wCall S.near_of (asApp (asV (wN 0) asN) asN)) (asV (wN 2) asN)) asN))) (gN 3) tYes (wCall S.lot_of (asApp (asV (wN 0) (asV (wN 3) asN)) asN)) [3])) rsN)))))
def w_is_joined (S : Sps) (C : Nat) : WS :=
  (wSeq (wDrop (wCall S.check_lot (asApp (asV (wN 0) (asV (wN 1) asN)) asN)))
  (wSeq (wSet 2 (wCall S.bits_of (asApp (asV (wN 0) (asV (wN 1) asN)) asN)))
  (wRet (wAnd (wOp kNe (rN 2) (rE (wC (.int 0)))) (wOp kEq (rE (wB kLen (rsC (rE (wCall S.parts_of (asApp (asV (wCall S.near_of (asApp (asV (wN 0) asN) asN)) (asV (wN 2) asN)) asN))) rsN))) (rE (wC (.int 1))))))))
def w_beside (S : Sps) (C : Nat) : WS :=
  (wSeq (wDrop (wCall S.check_lot (asApp (asV (wN 0) (asV (wN 1) asN)) asN)))
  (wRet (wCall S.lot_of (asApp (asV (wN 0) (asV (wCall S.edge_of (asApp (asV (wCall S.near_of (asApp (asV (wN 0) asN) asN)) (asV (wCall S.bits_of (asApp (asV (wN 0) (asV (wN 1) asN)) asN)) asN)) asN)) asN)) asN))))
def w_rows_from (S : Sps) (C : Nat) : WS :=
  (wSeq (wPar [2, 3, 4] (hsC (wCall S.near_of (asApp (asV (wN 0) asN) asN)) (hsC (wDic (psC (wN 1) (wTup (vsC (wN 1) vsN)) psN)) (hsC (wLst (vsC (wN 1) vsN)) hsN))))
  (wSeq (wWhile (tV (wOp kNe (rN 4) (rE (wLst vsN)))) (wSeq (wSet 5 (wLst vsN))
  (wSeq (wFor (iSq (wN 4)) (gN 6) (wFor (iSq (wCall S.lot_of (asApp (asV (wN 0) (asV (wOp kIx (rN 2) (rE (wTIx (wProp C "own_rooms" (rN 0)) (rsC (rN 6) rsN)))) asN)) asN))) (gN 7) (wIfS (tV (wOp kNotIn (rN 7) (rN 3))) (wSeq (wAsg (gIx 3 (rN 7)) (wTup (vsS (wOp kIx (rN 3) (rN 6)) (vsC (wN 7) vsN))))
  (wDrop (wMut "list" kAppend 5 (vsC (wN 7) vsN)))) wPass)))
  (wSet 4 (wN 5)))))
  (wRet (wN 3))))
def w_way (S : Sps) (C : Nat) : WS :=
  (wSeq (wDrop (wCall S.check_house (asApp (asV (wN 0) asN) asN)))
  (wSeq (wDrop (wCall S.check_room (asApp (asV (wN 0) (asV (wN 1) asN)) asN)))
  (wSeq (wDrop (wCall S.check_room (asApp (asV (wN 0) (asV (wN 2) asN)) asN)))
  (wRet (wGet (rE (wCall S.rows_from (asApp (asV (wN 0) (asV (wN 1) asN)) asN))) (rN 2))))))
def w_is_row_of (S : Sps) (C : Nat) : WS :=
  (wSeq (wIfS (tOr (tNot (tV (wIsTy "tuple" (rN 1)))) (tOr (tV (wOp kEqE (rN 1) (rE (wTup vsN)))) (tNot (tV (wB kAll (rsC (rE (wLc (iSq (wN 1)) (gN 2) tYes (wIsTy "str" (rN 2)) [2])) rsN)))))) (wRet (wC (.bl false))) wPass)
  (wSeq (wIfS (tNot (tV (wB kAll (rsC (rE (wLc (iSq (wN 1)) (gN 2) tYes (wOp kIn (rN 2) (rE (wPropT C "own_rooms" (rN 0)))) [2])) rsN)))) (wRet (wC (.bl false))) wPass)
  (wRet (wB kAll (rsC (rE (wLc (iZp (wN 1) (wSl (rN 1) (oS (rE (wC (.int 1)))) oN)) (gTn 2 (gsC (gN 3) (gsC (gN 4) gsN))) tYes (wCall S.has_door (asApp (asV (wN 0) (asV (wN 3) (asV (wN 4) asN))) asN)) [3, 4])) rsN)))))
def w_shows_way (S : Sps) (C : Nat) : WS :=
  (wSeq (wSet 4 (wCall S.way (asApp (asV (wN 0) (asV (wN 1) (asV (wN 2) asN))) asN)))
  (wSeq (wIfS (tOr (tV (wOp kIs (rN 4) (rE (wC .non)))) (tV (wOp kIs (rN 3) (rE (wC .non))))) (wRet (wAnd (wOp kIs (rN 4) (rE (wC .non))) (wOp kIs (rN 3) (rE (wC .non))))) wPass)
  (wRet (wAnd (wCall S.is_row_of (asApp (asV (wN 0) (asV (wN 3) asN)) asN)) (wAnd (wOp kEq (rE (wTup (vsC (wOp kIx (rN 3) (rE (wC (.int 0)))) (vsC (wOp kIx (rN 3) (rE (wUn kNeg (rE (wC (.int 1)))))) vsN)))) (rE (wTup (vsC (wN 1) (vsC (wN 2) vsN))))) (wOp kEq (rE (wB kLen (rsC (rN 3) rsN))) (rE (wB kLen (rsC (rN 4) rsN)))))))))
def w_has_door (S : Sps) (C : Nat) : WS :=
  (wRet (wOr (wOp kIn (rE (wTup (vsC (wN 1) (vsC (wN 2) vsN)))) (rE (wPropT C "own_doors" (rN 0)))) (wOp kIn (rE (wTup (vsC (wN 2) (vsC (wN 1) vsN)))) (rE (wPropT C "own_doors" (rN 0))))))
def w__law_pot (S : Sps) (C : Nat) : WS :=
  (wSeq (wSet 2 (wIf (tV (wOp kLt (rN 1) (rE (wB kLen (rsC (rN 0) rsN))))) (wOp kIx (rN 0) (rN 1)) (wOp kAdd (rE (wOp kAdd (rE (wOp kMod (rE (wB kSum (rsC (rE (wSl (rN 0) oN (oS (rE (wC (.int 1)))))) rsN))) (rE (wC (.int 1000003))))) (rE (wOp kMul (rE (wC (.int 23125))) (rN 1))))) (rE (wC (.int 7115))))))
  (wSeq (wSet 3 (wOp kMul (rE (wOp kMod (rE (wB kInt (rsC (rE (wB kAbs (rsC (rN 2) rsN))) rsN))) (rE (wOp kPow (rE (wOp kPow (rE (wC (.int 10))) (rE (wC (.int 60))))) (rE (wC (.int 5))))))) (rE (wB kInt (rsC (rE (wOp kGe (rE (wB kAbs (rsC (rN 2) rsN))) (rE (wOp kPow (rE (wC (.int 10))) (rE (wC (.int 18))))))) rsN)))))
  (wSeq (wSet 4 (wOp kMod (rE (wB kInt (rsC (rN 2) rsN))) (rE (wC (.int 2305843009213693951)))))
  (wRet (wLst (vsC (wN 3) (vsC (wOp kMod (rE (wB kInt (rsC (rE (wOp kAdd (rE (wOp kAdd (rE (wOp kMul (rN 4) (rE (wC (.int 105343))))) (rE (wOp kMul (rE (wOp kMul (rE (wC (.int 20231))) (rN 1))) (rN 1))))) (rE (wC (.int 8515))))) rsN))) (rE (wC (.int 2305843009213693921)))) (vsC (wC (.int 0)) vsN))))))))
def w__law_take (S : Sps) (C : Nat) : WS :=
  (wSeq (wIfS (tV (wOp kGt (rE (wOp kIx (rN 0) (rE (wC (.int 0))))) (rE (wC (.int 0))))) (wSeq (wSet 2 (wOp kMod (rE (wB kInt (rsC (rE (wOp kIx (rN 0) (rE (wC (.int 0))))) rsN))) (rN 1)))
  (wSeq (wAsg (gIx 0 (rE (wC (.int 0)))) (wOp kFdiv (rE (wOp kIx (rN 0) (rE (wC (.int 0))))) (rN 1)))
  (wRet (wN 2)))) wPass)
  (wSeq (wAsg (gIx 0 (rE (wC (.int 2)))) (wOp kAdd (rE (wOp kIx (rN 0) (rE (wC (.int 2))))) (rE (wC (.int 1)))))
  (wSeq (wSet 3 (wOp kIx (rE (wLst (vsC (wC (.int 2147483647)) (vsC (wC (.int 2147483629)) (vsC (wC (.int 2147483587)) (vsC (wC (.int 2147483579)) (vsC (wC (.int 2147483563)) vsN))))))) (rE (wOp kMod (rE (wB kInt (rsC (rE (wOp kIx (rN 0) (rE (wC (.int 2))))) rsN))) (rE (wC (.int 5)))))))
  (wSeq (wSet 4 (wOp kMod (rE (wB kInt (rsC (rE (wOp kPow (rE (wB kInt (rsC (rE (wOp kAdd (rE (wOp kAdd (rE (wOp kIx (rN 0) (rE (wC (.int 1))))) (rE (wOp kMul (rE (wOp kMul (rE (wC (.int 114119))) (rE (wOp kIx (rN 0) (rE (wC (.int 2))))))) (rE (wOp kIx (rN 0) (rE (wC (.int 2))))))))) (rE (wC (.int 4505))))) rsN))) (rE (wC (.int 3))))) rsN))) (rN 3)))
  (wSeq (wSet 4 (wOp kMod (rE (wB kInt (rsC (rE (wOp kMul (rN 4) (rE (wOp kAdd (rE (wOp kMod (rE (wB kInt (rsC (rN 4) rsN))) (rE (wC (.int 24317))))) (rE (wOp kMul (rE (wC (.int 2713))) (rE (wOp kIx (rN 0) (rE (wC (.int 2))))))))))) rsN))) (rE (wC (.int 2305843009213693907)))))
  (wRet (wOp kMod (rE (wB kInt (rsC (rE (wOp kFdiv (rN 4) (rE (wC (.int 6715))))) rsN))) (rN 1))))))))
def w__law_of (S : Sps) (C : Nat) : WS :=
  (wRet (wOp kIx (rN 1) (rE (wCall S._law_take (asApp (asS 0 (asV (wB kLen (rsC (rN 1) rsN)) asN)) asN)))))
def w__law_cells (S : Sps) (C : Nat) : WS :=
  (wRet (wLrg1 (rE (wB kMax2 (rsC (rE (wC (.int 1))) (rsC (rE (wB kMin2 (rsC (rN 1) (rsC (rE (wB kLen (rsC (rN 0) rsN))) rsN)))) rsN))))))
def w__law_some (S : Sps) (C : Nat) : WS :=
  (wSeq (wPar [3, 4] (hsC (wB kList (rsC (rN 1) rsN)) (hsC (wLst vsN) hsN)))
  (wSeq (wFor (iRng1 (rN 2)) (gN 5) (wDrop (wMut "list" kAppend 4 (vsC (wMut "list" kPopAt 3 (vsC (wCall S._law_take (asApp (asS 0 (asV (wB kLen (rsC (rN 3) rsN)) asN)) asN)) vsN)) vsN))))
  (wRet (wMv 4))))
def w__law_name (S : Sps) (C : Nat) : WS :=
  (wSeq (wAsg (gTn 2 (gsC (gN 2) (gsC (gN 3) gsN))) (wTup (vsC (wC (.str "abcdefghijklmnopqrstuvwxyz")) (vsC (wC (.str "0123456789")) vsN))))
  (wSeq (wSet 4 (wOp kIx (rN 2) (rE (wCall S._law_take (asApp (asS 0 (asV (wC (.int 26)) asN)) asN)))))
  (wSeq (wFor (iRng1 (rE (wCall S._law_take (asApp (asS 0 (asV (wC (.int 8)) asN)) asN)))) (gN 5) (wSet 4 (wOp kAdd (rN 4) (rE (wOp kIx (rE (wOp kAdd (rN 2) (rN 3))) (rE (wCall S._law_take (asApp (asS 0 (asV (wC (.int 36)) asN)) asN))))))))
  (wSeq (wFor (iRng1 (rE (wOp kAdd (rE (wB kLen (rsC (rN 1) rsN))) (rE (wC (.int 1)))))) (gN 6) (wIfS (tV (wOp kIn (rN 4) (rN 1))) (wSet 4 (wOp kAdd (rE (wC (.str "g"))) (rE (wB kStr (rsC (rE (wB kInt (rsC (rN 6) rsN))) rsN))))) wPass))
  (wRet (wN 4))))))
def w__law_names (S : Sps) (C : Nat) : WS :=
  (wSeq (wSet 2 (wCall S._law_some (asApp (asS 0 (asV (wLst (vsC (wC (.str "a")) (vsC (wC (.str "b")) (vsC (wC (.str "c1")) (vsC (wC (.str "room")) (vsC (wC (.str "door")) (vsC (wC (.str "oak")) vsN))))))) (asV (wB kMin2 (rsC (rN 1) (rsC (rE (wCall S._law_take (asApp (asS 0 (asV (wC (.int 5)) asN)) asN))) rsN))) asN))) asN)))
  (wSeq (wFor (iRng1 (rE (wOp kSub (rN 1) (rE (wB kLen (rsC (rN 2) rsN)))))) (gN 3) (wDrop (wMut "list" kAppend 2 (vsC (wCall S._law_name (asApp (asS 0 (asS 2 asN)) asN)) vsN))))
  (wRet (wB kTuple (rsC (rE (wCall S._law_some (asApp (asS 0 (asV (wN 2) (asV (wN 1) asN))) asN))) rsN)))))
def w__law_house (S : Sps) (C : Nat) : WS :=
  (wSeq (wPar [2, 3] (hsC (wOp kAdd (rE (wC (.int 1))) (rE (wCall S._law_take (asApp (asS 0 (asV (wN 1) asN)) asN)))) (hsC (wCall S._law_take (asApp (asS 0 (asV (wC (.int 6)) asN)) asN)) hsN)))
  (wSeq (wPar [4, 5] (hsC (wCall S._law_names (asApp (asS 0 (asV (wN 2) asN)) asN)) (hsC (wLst vsN) hsN)))
  (wSeq (wFor (iRng1 (rN 2)) (gN 6) (wFor (iRng1 (rN 6)) (gN 7) (wSeq (wSet 8 (wOp kAdd (rE (wC (.int 2))) (rE (wB kInt (rsC (rE (wOp kGt (rN 2) (rE (wC (.int 8))))) rsN)))))
  (wSeq (wSet 9 (wOr (wOp kEq (rE (wOp kSub (rN 6) (rN 7))) (rN 8)) (wAnd (wOp kEq (rE (wOp kSub (rN 6) (rN 7))) (rE (wC (.int 1)))) (wOp kGt (rE (wOp kMod (rN 6) (rN 8))) (rE (wC (.int 0)))))))
  (wSeq (wPar [10, 11] (hsC (wOp kEq (rE (wOp kSub (rN 6) (rN 7))) (rE (wC (.int 1)))) (hsC (wOp kIn (rE (wOp kSub (rN 6) (rN 7))) (rE (wTup (vsC (wC (.int 1)) (vsC (wOp kSub (rN 2) (rE (wC (.int 1)))) vsN))))) hsN)))
  (wSeq (wSet 12 (wOp kIx (rE (wLst (vsC (wN 10) (vsC (wN 11) (vsC (wN 9) (vsC (wOp kLt (rN 2) (rE (wC (.int 8)))) (vsC (wC (.bl false)) (vsC (wOp kEq (rE (wCall S._law_take (asApp (asS 0 (asV (wC (.int 2)) asN)) asN))) (rE (wC (.int 0)))) vsN)))))))) (rN 3)))
  (wDrop (wMut "list" kExtend 5 (vsC (wIf (tOr (tV (wN 12)) (tV (wOp kEq (rE (wCall S._law_take (asApp (asS 0 (asV (wIf (tV (wOp kEq (rN 3) (rE (wC (.int 4))))) (wC (.int 5)) (wC (.int 12))) asN)) asN))) (rE (wC (.int 0)))))) (wLst (vsC (wTup (vsC (wOp kIx (rN 4) (rN 7)) (vsC (wOp kIx (rN 4) (rN 6)) vsN))) vsN)) (wLst vsN)) vsN)))))))))
  (wSeq (wSet 13 (wCall S._law_some (asApp (asS 0 (asV (wN 4) (asV (wN 2) asN))) asN)))
  (wSeq (wSet 14 (wLc (iSq (wCall S._law_some (asApp (asS 0 (asV (wN 5) (asV (wB kMin2 (rsC (rE (wC (.int 60))) (rsC (rE (wB kLen (rsC (rN 5) rsN))) rsN))) asN))) asN))) (gN 15) tYes (wCall S._law_some (asApp (asS 0 (asV (wN 15) (asV (wC (.int 2)) asN))) asN)) [15]))
  (wRet (wTup (vsC (wB kTuple (rsC (rN 13) rsN)) (vsC (wB kTuple (rsC (rE (wLc (iSq (wN 14)) (gN 16) tYes (wB kTuple (rsC (rN 16) rsN)) [16])) rsN)) vsN)))))))))
def w__law_text (S : Sps) (C : Nat) : WS :=
  (wRet (wMt "str" kJoin (rE (wC (.str "\n"))) (rsC (rE (wOp kAdd (rE (wLc (iSq (wN 0)) (gN 2) tYes (wOp kAdd (rE (wC (.str "room "))) (rN 2)) [2])) (rE (wLc (iSq (wN 1)) (gN 3) tYes (wMt "str" kJoin (rE (wC (.str " "))) (rsC (rE (wOp kAdd (rE (wTup (vsC (wC (.str "door")) vsN))) (rE (wB kTuple (rsC (rN 3) rsN))))) rsN)) [3])))) rsN)))
def w__law_near (S : Sps) (C : Nat) : WS :=
  (wSeq (wSet 2 wDic0)
  (wSeq (wFor (iSq (wN 0)) (gN 3) (wSeq (wSet 4 (wLc (iSq (wN 1)) (gTn 2 (gsC (gN 5) (gsC (gN 6) gsN))) (tV (wOp kIn (rN 3) (rE (wTup (vsC (wN 5) (vsC (wN 6) vsN)))))) (wIf (tV (wOp kEq (rN 6) (rN 3))) (wN 5) (wN 6)) [5, 6]))
  (wAsg (gIx 2 (rN 3)) (wB kTuple (rsC (rE (wLc (iSq (wN 0)) (gN 6) (tV (wOp kIn (rN 6) (rN 4))) (wN 6) [6])) rsN)))))
  (wRet (wN 2))))
def w__law_parts (S : Sps) (C : Nat) : WS :=
  (wSeq (wSet 3 (wLst vsN))
  (wSeq (wFor (iSq (wN 0)) (gN 4) (wIfS (tAnd (tV (wOp kIn (rN 4) (rN 2))) (tNot (tV (wB kAny (rsC (rE (wLcR 3 (gN 5) tYes (wOp kIn (rN 4) (rN 5)) [5])) rsN))))) (wSeq (wPar [5, 6] (hsC (wLst (vsC (wN 4) vsN)) (hsC (wLst (vsC (wN 4) vsN)) hsN)))
  (wSeq (wWhile (tV (wOp kNe (rN 6) (rE (wLst vsN)))) (wFor (iSq (wOp kIx (rN 1) (rE (wMut0 "list" kPop 6)))) (gN 7) (wIfS (tAnd (tV (wOp kIn (rN 7) (rN 2))) (tV (wOp kNotIn (rN 7) (rN 5)))) (wSeq (wDrop (wMut "list" kAppend 5 (vsC (wN 7) vsN)))
  (wDrop (wMut "list" kAppend 6 (vsC (wN 7) vsN)))) wPass)))
  (wDrop (wMut "list" kAppend 3 (vsC (wB kTuple (rsC (rE (wLc (iSq (wN 0)) (gN 7) (tV (wOp kIn (rN 7) (rN 5))) (wN 7) [7])) rsN)) vsN))))) wPass))
  (wRet (wN 3))))
def w__law_lot (S : Sps) (C : Nat) : WS :=
  (wRet (wB kTuple (rsC (rE (wLc (iSq (wN 1)) (gN 2) (tV (wOp kEq (rE (wCall S._law_take (asApp (asS 0 (asV (wC (.int 2)) asN)) asN))) (rE (wC (.int 0))))) (wN 2) [2])) rsN)))
def w__law_bent (S : Sps) (C : Nat) : WS :=
  (wSeq (wIfS (tAnd (tV (wIsTy "tuple" (rN 1))) (tAnd (tV (wOp kNeE (rN 1) (rE (wTup vsN)))) (tV (wOp kGt (rE (wCall S._law_take (asApp (asS 0 (asV (wC (.int 5)) asN)) asN))) (rE (wC (.int 0))))))) (wSeq (wSet 2 (wCall S._law_take (asApp (asS 0 (asV (wB kLen (rsC (rN 1) rsN)) asN)) asN)))
  (wRet (wOp kAdd (rE (wOp kAdd (rE (wSl (rN 1) oN (oS (rN 2)))) (rE (wTup (vsC (wCall S._law_bent (asApp (asS 0 (asV (wOp kIx (rN 1) (rN 2)) asN)) asN)) vsN))))) (rE (wSl (rN 1) (oS (rE (wOp kAdd (rN 2) (rE (wC (.int 1)))))) oN))))) wPass)
  (wSeq (wIfS (tV (wIsTy "tuple" (rN 1))) (wRet (wCall S._law_of (asApp (asS 0 (asV (wLst (vsC (wB kList (rsC (rN 1) rsN)) (vsC (wSl (rN 1) (oS (rE (wC (.int 1)))) oN) (vsC (wOp kAdd (rN 1) (rE (wSl (rN 1) (oS (rE (wUn kNeg (rE (wC (.int 1)))))) oN))) (vsC (wBack (rN 1)) (vsC (wTup vsN) (vsC (wC .non) (vsC (wOp kAdd (rN 1) (rE (wTup (vsC (wC (.str "a")) vsN)))) vsN)))))))) asN)) asN))) wPass)
  (wSeq (wIfS (tV (wIsTy "int" (rN 1))) (wRet (wCall S._law_of (asApp (asS 0 (asV (wLst (vsC (wB kInt (rsC (rE (wOp kAdd (rN 1) (rE (wC (.int 1))))) rsN)) (vsC (wB kInt (rsC (rE (wOp kSub (rN 1) (rE (wC (.int 1))))) rsN)) (vsC (wOp kEq (rN 1) (rE (wC (.int 1)))) (vsC (wB kStr (rsC (rN 1) rsN)) (vsC (wC .non) (vsC (wC (.int 0)) (vsC (wLst (vsC (wN 1) vsN)) vsN)))))))) asN)) asN))) wPass)
  (wSeq (wSet 3 (wLst (vsC (wC .non) (vsC (wC (.int 0)) (vsC (wC (.str "a")) (vsC (wC (.str "b")) (vsC (wC (.str "c1")) (vsC (wC (.str "room")) (vsC (wC (.str "ring")) (vsC (wC (.str "wood")) (vsC (wC (.str "a")) (vsC (wC (.str "a")) (vsC (wC (.str "b")) (vsC (wC (.str "room")) (vsC (wC (.str "")) vsN)))))))))))))))
  (wRet (wCall S._law_of (asApp (asS 0 (asV (wOp kAdd (rN 3) (rE (wLst (vsC (wLst (vsC (wN 1) vsN)) (vsC wDic0 (vsC (wTup (vsC (wN 1) vsN)) (vsC (wTup (vsC (wLst (vsC (wN 1) vsN)) vsN)) vsN))))))) asN)) asN)))))))
def w__law_far (S : Sps) (C : Nat) : WS :=
  (wSeq (wPar [2, 3] (hsC (wDic (psC (wN 1) (wC (.int 0)) psN)) (hsC (wLst (vsC (wN 1) vsN)) hsN)))
  (wSeq (wWhile (tV (wOp kNe (rN 3) (rE (wLst vsN)))) (wSeq (wSet 4 (wMut "list" kPopAt 3 (vsC (wC (.int 0)) vsN)))
  (wFor (iSq (wOp kIx (rN 0) (rN 4))) (gN 5) (wIfS (tV (wOp kNotIn (rN 5) (rN 2))) (wSeq (wAsg (gIx 2 (rN 5)) (wOp kAdd (rE (wOp kIx (rN 2) (rN 4))) (rE (wC (.int 1)))))
  (wDrop (wMut "list" kAppend 3 (vsC (wN 5) vsN)))) wPass))))
  (wRet (wN 2))))
def w__law_is_way (S : Sps) (C : Nat) : WS :=
  (wSeq (wSet 4 (wCall S._law_far (asApp (asV (wN 0) (asV (wN 1) asN)) asN)))
  (wSeq (wIfS (tOr (tV (wOp kNotIn (rN 2) (rN 4))) (tV (wOp kIs (rN 3) (rE (wC .non))))) (wRet (wAnd (wOp kNotIn (rN 2) (rN 4)) (wOp kIs (rN 3) (rE (wC .non))))) wPass)
  (wSeq (wIfS (tOr (tNot (tV (wIsTy "tuple" (rN 3)))) (tNot (tV (wB kAll (rsC (rE (wLc (iSq (wN 3)) (gN 5) tYes (wAnd (wIsTy "str" (rN 5)) (wOp kIn (rN 5) (rN 0))) [5])) rsN))))) (wRet (wC (.bl false))) wPass)
  (wSeq (wIfS (tOr (tV (wOp kNe (rE (wB kLen (rsC (rN 3) rsN))) (rE (wOp kAdd (rE (wOp kIx (rN 4) (rN 2))) (rE (wC (.int 1))))))) (tOr (tV (wOp kNe (rE (wOp kIx (rN 3) (rE (wC (.int 0))))) (rN 1))) (tV (wOp kNe (rE (wOp kIx (rN 3) (rE (wUn kNeg (rE (wC (.int 1))))))) (rN 2))))) (wRet (wC (.bl false))) wPass)
  (wRet (wB kAll (rsC (rE (wLc (iZp (wN 3) (wSl (rN 3) (oS (rE (wC (.int 1)))) oN)) (gTn 2 (gsC (gN 6) (gsC (gN 7) gsN))) tYes (wOp kIn (rN 7) (rE (wOp kIx (rN 0) (rN 6)))) [6, 7])) rsN)))))))
def w__law_right (S : Sps) (C : Nat) : WS :=
  (wSeq (wAsg (gTn 2 (gsC (gN 1) (gsC (gN 2) gsN))) (wCall S._law_house (asApp (asS 0 (asV (wC (.int 12)) asN)) asN)))
  (wSeq (wPar [3, 4] (hsC (wCall S.House (asV (wCall S._law_text (asApp (asV (wN 1) (asV (wN 2) asN)) asN)) asN)) (hsC (wCall S._law_near (asApp (asV (wN 1) (asV (wN 2) asN)) asN)) hsN)))
  (wSeq (wFor (iRng1 (rE (wC (.int 6)))) (gN 5) (wSeq (wSet 6 (wCall S._law_lot (asApp (asS 0 (asV (wN 1) asN)) asN)))
  (wSeq (wSet 7 (wLc (iSq (wN 1)) (gN 17) (tV (wOp kNotIn (rN 17) (rN 6))) (wN 17) [17]))
  (wSeq (wIfS (tV (wOp kNe (rE (wB kRepr (rsC (rE (wCall S.parts (asApp asN (asV (wN 3) (asV (wN 6) asN))))) rsN))) (rE (wB kRepr (rsC (rE (wB kTuple (rsC (rE (wCall S._law_parts (asApp (asV (wN 1) (asV (wN 4) (asV (wN 7) asN))) asN))) rsN))) rsN))))) (wRet (wC (.bl false))) wPass)
  (wSeq (wIfS (tV (wOp kNe (rE (wB kRepr (rsC (rE (wCall S.is_joined (asApp asN (asV (wN 3) (asV (wN 6) asN))))) rsN))) (rE (wB kRepr (rsC (rE (wOp kEq (rE (wB kLen (rsC (rE (wCall S._law_parts (asApp (asV (wN 1) (asV (wN 4) (asV (wN 6) asN))) asN))) rsN))) (rE (wC (.int 1))))) rsN))))) (wRet (wC (.bl false))) wPass)
  (wSeq (wSet 8 (wB kTuple (rsC (rE (wLc (iSq (wN 7)) (gN 17) (tV (wB kAny (rsC (rE (wLc (iSq (wOp kIx (rN 4) (rN 17))) (gN 12) tYes (wOp kIn (rN 12) (rN 6)) [12])) rsN))) (wN 17) [17])) rsN)))
  (wSeq (wIfS (tV (wOp kNe (rE (wB kRepr (rsC (rE (wCall S.beside (asApp asN (asV (wN 3) (asV (wN 6) asN))))) rsN))) (rE (wB kRepr (rsC (rN 8) rsN))))) (wRet (wC (.bl false))) wPass)
  (wFor (iSq (wLst (vsC (wN 6) (vsC (wBack (rN 6)) (vsC (wB kList (rsC (rN 6) rsN)) (vsC (wOp kAdd (rN 6) (rE (wSl (rN 6) oN (oS (rE (wC (.int 1))))))) (vsC (wC .non) (vsC (wOp kAdd (rN 6) (rE (wTup (vsC (wC (.str "nobody")) vsN)))) (vsC (wCall S._law_bent (asApp (asS 0 (asV (wN 6) asN)) asN)) vsN))))))))) (gN 9) (wSeq (wSet 10 (wAnd (wIsTy "tuple" (rN 9)) (wB kAll (rsC (rE (wLc (iSq (wN 9)) (gN 17) tYes (wIsTy "str" (rN 17)) [17])) rsN))))
  (wSeq (wSet 10 (wAnd (wN 10) (wOp kEq (rN 9) (rE (wB kTuple (rsC (rE (wLc (iSq (wN 1)) (gN 17) (tV (wOp kIn (rN 17) (rN 9))) (wN 17) [17])) rsN))))))
  (wIfS (tV (wOp kNe (rE (wB kRepr (rsC (rE (wCall S.is_lot (asApp asN (asV (wN 3) (asV (wN 9) asN))))) rsN))) (rE (wB kRepr (rsC (rN 10) rsN))))) (wRet (wC (.bl false))) wPass)))))))))))
  (wSeq (wFor (iRng1 (rE (wC (.int 4)))) (gN 5) (wSeq (wPar [11, 12] (hsC (wCall S._law_of (asApp (asS 0 (asV (wN 1) asN)) asN)) (hsC (wCall S._law_of (asApp (asS 0 (asV (wN 1) asN)) asN)) hsN)))
  (wSeq (wPar [13, 14] (hsC (wCall S.way (asApp asN (asV (wN 3) (asV (wN 11) (asV (wN 12) asN))))) (hsC (wCall S.way (asApp (asV (wN 3) (asV (wN 12) (asV (wN 11) asN))) asN)) hsN)))
  (wSeq (wIfS (tOr (tNot (tV (wCall S._law_is_way (asApp (asV (wN 4) (asV (wN 11) (asV (wN 12) (asV (wN 13) asN)))) asN)))) (tV (wOp kNe (rE (wOp kIs (rN 13) (rE (wC .non)))) (rE (wOp kIs (rN 14) (rE (wC .non))))))) (wRet (wC (.bl false))) wPass)
  (wSeq (wIfS (tAnd (tV (wOp kIsNot (rN 13) (rE (wC .non)))) (tV (wOp kNe (rE (wB kLen (rsC (rN 14) rsN))) (rE (wB kLen (rsC (rN 13) rsN)))))) (wRet (wC (.bl false))) wPass)
  (wSeq (wSet 15 (wLst (vsC (wN 13) (vsC (wN 14) (vsC (wC .non) (vsC (wTup vsN) (vsC (wTup (vsC (wN 11) (vsC (wN 12) vsN))) (vsC (wTup (vsC (wN 11) vsN)) (vsC (wIf (tV (wOp kIsNot (rN 13) (rE (wC .non)))) (wB kList (rsC (rN 13) rsN)) (wLst (vsC (wN 11) vsN))) vsN)))))))))
  (wSeq (wFor (iRng1 (rE (wC (.int 6)))) (gN 16) (wDrop (wMut "list" kAppend 15 (vsC (wB kTuple (rsC (rE (wOp kAdd (rE (wOp kAdd (rE (wLst (vsC (wN 11) vsN))) (rE (wCall S._law_some (asApp (asS 0 (asV (wN 1) (asV (wCall S._law_take (asApp (asS 0 (asV (wB kLen (rsC (rN 1) rsN)) asN)) asN)) asN))) asN))))) (rE (wLst (vsC (wN 12) vsN))))) rsN)) vsN))))
  (wFor (iSq (wOp kAdd (rN 15) (rE (wLc (iRng1 (rE (wC (.int 4)))) (gN 16) tYes (wCall S._law_bent (asApp (asS 0 (asV (wN 13) asN)) asN)) [16])))) (gN 9) (wSeq (wSet 8 (wCall S._law_is_way (asApp (asV (wN 4) (asV (wN 11) (asV (wN 12) (asV (wN 9) asN)))) asN)))
  (wIfS (tV (wOp kNe (rE (wB kRepr (rsC (rE (wCall S.shows_way (asApp asN (asV (wN 3) (asV (wN 11) (asV (wN 12) (asV (wN 9) asN))))))) rsN))) (rE (wB kRepr (rsC (rN 8) rsN))))) (wRet (wC (.bl false))) wPass))))))))))
  (wRet (wC (.bl true)))))))
def w_law (S : Sps) (C : Nat) : WS :=
  (wSeq (wFor (iSq (wCall S._law_cells (asApp (asV (wN 0) (asV (wC (.int 2)) asN)) asN))) (gN 1) (wSeq (wSet 2 (wCall S._law_pot (asApp (asV (wN 0) (asV (wN 1) asN)) asN)))
  (wIfS (tNot (tV (wB kAll (rsC (rE (wLc (iRng1 (rE (wC (.int 4)))) (gN 3) tYes (wCall S._law_right (asApp (asS 2 asN) asN)) [3])) rsN)))) (wRet (wC (.bl false))) wPass)))
  (wRet (wC (.bl true))))
section
variable {P : Program} {w : World} {K : PySem.W.Frag} {mg : Str → Option Value} {base : Heap}
theorem Txt.b_check_house_1 (T : Txt K mg) : Bd T.f_check_house.fd ["house"] 1 [] := bd_of T.f_check_house.T fun _ _ _ _ _ _ us ws h1 h2 => match us, ws, h1, h2 with | [_], [], _, _ => rfl
theorem Txt.b_is_lot_of_2 (T : Txt K mg) : Bd T.f_is_lot_of.fd ["house", "value"] 2 [] := bd_of T.f_is_lot_of.T fun _ _ _ _ _ _ us ws h1 h2 => match us, ws, h1, h2 with | [_, _], [], _, _ => rfl
theorem Txt.b_around_2 (T : Txt K mg) : Bd T.f_around.fd ["near", "bits"] 2 [] := bd_of T.f_around.T fun _ _ _ _ _ _ us ws h1 h2 => match us, ws, h1, h2 with | [_, _], [], _, _ => rfl
theorem Txt.b_part_from_3 (T : Txt K mg) : Bd T.f_part_from.fd ["near", "free", "first"] 3 [] := bd_of T.f_part_from.T fun _ _ _ _ _ _ us ws h1 h2 => match us, ws, h1, h2 with | [_, _, _], [], _, _ => rfl
theorem Txt.b_check_lot_2 (T : Txt K mg) : Bd T.f_check_lot.fd ["house", "lot"] 2 [] := bd_of T.f_check_lot.T fun _ _ _ _ _ _ us ws h1 h2 => match us, ws, h1, h2 with | [_, _], [], _, _ => rfl
theorem Txt.b_bits_of_2 (T : Txt K mg) : Bd T.f_bits_of.fd ["house", "lot"] 2 [] := bd_of T.f_bits_of.T fun _ _ _ _ _ _ us ws h1 h2 => match us, ws, h1, h2 with | [_, _], [], _, _ => rfl
theorem Txt.b_lot_of_2 (T : Txt K mg) : Bd T.f_lot_of.fd ["house", "bits"] 2 [] := bd_of T.f_lot_of.T fun _ _ _ _ _ _ us ws h1 h2 => match us, ws, h1, h2 with | [_, _], [], _, _ => rfl
theorem Txt.b_parts_of_2 (T : Txt K mg) : Bd T.f_parts_of.fd ["near", "free"] 2 [] := bd_of T.f_parts_of.T fun _ _ _ _ _ _ us ws h1 h2 => match us, ws, h1, h2 with | [_, _], [], _, _ => rfl
theorem Txt.b_near_of_1 (T : Txt K mg) : Bd T.f_near_of.fd ["house"] 1 [] := bd_of T.f_near_of.T fun _ _ _ _ _ _ us ws h1 h2 => match us, ws, h1, h2 with | [_], [], _, _ => rfl
theorem Txt.b_edge_of_2 (T : Txt K mg) : Bd T.f_edge_of.fd ["near", "bits"] 2 [] := bd_of T.f_edge_of.T fun _ _ _ _ _ _ us ws h1 h2 => match us, ws, h1, h2 with | [_, _], [], _, _ => rfl
theorem Txt.b_check_room_2 (T : Txt K mg) : Bd T.f_check_room.fd ["house", "value"] 2 [] := bd_of T.f_check_room.T fun _ _ _ _ _ _ us ws h1 h2 => match us, ws, h1, h2 with | [_, _], [], _, _ => rfl
theorem Txt.b_rows_from_2 (T : Txt K mg) : Bd T.f_rows_from.fd ["house", "one"] 2 [] := bd_of T.f_rows_from.T fun _ _ _ _ _ _ us ws h1 h2 => match us, ws, h1, h2 with | [_, _], [], _, _ => rfl
theorem Txt.b_has_door_3 (T : Txt K mg) : Bd T.f_has_door.fd ["house", "one", "other"] 3 [] := bd_of T.f_has_door.T fun _ _ _ _ _ _ us ws h1 h2 => match us, ws, h1, h2 with | [_, _, _], [], _, _ => rfl
theorem Txt.b_way_3 (T : Txt K mg) : Bd T.f_way.fd ["house", "one", "other"] 3 [] := bd_of T.f_way.T fun _ _ _ _ _ _ us ws h1 h2 => match us, ws, h1, h2 with | [_, _, _], [], _, _ => rfl
theorem Txt.b_is_row_of_2 (T : Txt K mg) : Bd T.f_is_row_of.fd ["house", "value"] 2 [] := bd_of T.f_is_row_of.T fun _ _ _ _ _ _ us ws h1 h2 => match us, ws, h1, h2 with | [_, _], [], _, _ => rfl
theorem Txt.b__law_take_2 (T : Txt K mg) : Bd T.f__law_take.fd ["pot", "upto"] 2 [] := bd_of T.f__law_take.T fun _ _ _ _ _ _ us ws h1 h2 => match us, ws, h1, h2 with | [_, _], [], _, _ => rfl
theorem Txt.b__law_some_3 (T : Txt K mg) : Bd T.f__law_some.fd ["pot", "pool", "many"] 3 [] := bd_of T.f__law_some.T fun _ _ _ _ _ _ us ws h1 h2 => match us, ws, h1, h2 with | [_, _, _], [], _, _ => rfl
theorem Txt.b__law_name_2 (T : Txt K mg) : Bd T.f__law_name.fd ["pot", "some"] 2 [] := bd_of T.f__law_name.T fun _ _ _ _ _ _ us ws h1 h2 => match us, ws, h1, h2 with | [_, _], [], _, _ => rfl
theorem Txt.b__law_names_2 (T : Txt K mg) : Bd T.f__law_names.fd ["pot", "many"] 2 [] := bd_of T.f__law_names.T fun _ _ _ _ _ _ us ws h1 h2 => match us, ws, h1, h2 with | [_, _], [], _, _ => rfl
theorem Txt.b__law_of_2 (T : Txt K mg) : Bd T.f__law_of.fd ["pot", "some"] 2 [] := bd_of T.f__law_of.T fun _ _ _ _ _ _ us ws h1 h2 => match us, ws, h1, h2 with | [_, _], [], _, _ => rfl
theorem Txt.b__law_bent_2 (T : Txt K mg) : Bd T.f__law_bent.fd ["pot", "value"] 2 [] := bd_of T.f__law_bent.T fun _ _ _ _ _ _ us ws h1 h2 => match us, ws, h1, h2 with | [_, _], [], _, _ => rfl
theorem Txt.b__law_far_2 (T : Txt K mg) : Bd T.f__law_far.fd ["near", "one"] 2 [] := bd_of T.f__law_far.T fun _ _ _ _ _ _ us ws h1 h2 => match us, ws, h1, h2 with | [_, _], [], _, _ => rfl
theorem Txt.b__law_house_2 (T : Txt K mg) : Bd T.f__law_house.fd ["pot", "upto"] 2 [] := bd_of T.f__law_house.T fun _ _ _ _ _ _ us ws h1 h2 => match us, ws, h1, h2 with | [_, _], [], _, _ => rfl
theorem Txt.b__law_near_2 (T : Txt K mg) : Bd T.f__law_near.fd ["rooms", "doors"] 2 [] := bd_of T.f__law_near.T fun _ _ _ _ _ _ us ws h1 h2 => match us, ws, h1, h2 with | [_, _], [], _, _ => rfl
theorem Txt.b__law_lot_2 (T : Txt K mg) : Bd T.f__law_lot.fd ["pot", "rooms"] 2 [] := bd_of T.f__law_lot.T fun _ _ _ _ _ _ us ws h1 h2 => match us, ws, h1, h2 with | [_, _], [], _, _ => rfl
theorem Txt.b__law_text_2 (T : Txt K mg) : Bd T.f__law_text.fd ["rooms", "doors"] 2 [] := bd_of T.f__law_text.T fun _ _ _ _ _ _ us ws h1 h2 => match us, ws, h1, h2 with | [_, _], [], _, _ => rfl
theorem Txt.b_way_0_k3 (T : Txt K mg) : Bd T.f_way.fd ["house", "one", "other"] 0 ["house", "one", "other"] := bd_of T.f_way.T fun _ _ _ _ _ _ us ws h1 h2 => match us, ws, h1, h2 with | [], [_, _, _], _, _ => rfl
theorem Txt.b__law_is_way_4 (T : Txt K mg) : Bd T.f__law_is_way.fd ["near", "one", "other", "value"] 4 [] := bd_of T.f__law_is_way.T fun _ _ _ _ _ _ us ws h1 h2 => match us, ws, h1, h2 with | [_, _, _, _], [], _, _ => rfl
theorem Txt.b_parts_0_k2 (T : Txt K mg) : Bd T.f_parts.fd ["house", "lot"] 0 ["house", "lot"] := bd_of T.f_parts.T fun _ _ _ _ _ _ us ws h1 h2 => match us, ws, h1, h2 with | [], [_, _], _, _ => rfl
theorem Txt.b_is_joined_0_k2 (T : Txt K mg) : Bd T.f_is_joined.fd ["house", "lot"] 0 ["house", "lot"] := bd_of T.f_is_joined.T fun _ _ _ _ _ _ us ws h1 h2 => match us, ws, h1, h2 with | [], [_, _], _, _ => rfl
theorem Txt.b_beside_0_k2 (T : Txt K mg) : Bd T.f_beside.fd ["house", "lot"] 0 ["house", "lot"] := bd_of T.f_beside.T fun _ _ _ _ _ _ us ws h1 h2 => match us, ws, h1, h2 with | [], [_, _], _, _ => rfl
theorem Txt.b__law_parts_3 (T : Txt K mg) : Bd T.f__law_parts.fd ["rooms", "near", "free"] 3 [] := bd_of T.f__law_parts.T fun _ _ _ _ _ _ us ws h1 h2 => match us, ws, h1, h2 with | [_, _, _], [], _, _ => rfl
theorem Txt.b_is_lot_0_k2 (T : Txt K mg) : Bd T.f_is_lot.fd ["house", "value"] 0 ["house", "value"] := bd_of T.f_is_lot.T fun _ _ _ _ _ _ us ws h1 h2 => match us, ws, h1, h2 with | [], [_, _], _, _ => rfl
theorem Txt.b_shows_way_0_k4 (T : Txt K mg) : Bd T.f_shows_way.fd ["house", "one", "other", "value"] 0 ["house", "one", "other", "value"] := bd_of T.f_shows_way.T fun _ _ _ _ _ _ us ws h1 h2 => match us, ws, h1, h2 with | [], [_, _, _, _], _, _ => rfl
theorem Txt.b__law_cells_2 (T : Txt K mg) : Bd T.f__law_cells.fd ["script", "most"] 2 [] := bd_of T.f__law_cells.T fun _ _ _ _ _ _ us ws h1 h2 => match us, ws, h1, h2 with | [_, _], [], _, _ => rfl
theorem Txt.b__law_pot_2 (T : Txt K mg) : Bd T.f__law_pot.fd ["script", "place"] 2 [] := bd_of T.f__law_pot.T fun _ _ _ _ _ _ us ws h1 h2 => match us, ws, h1, h2 with | [_, _], [], _, _ => rfl
theorem Txt.b__law_right_1 (T : Txt K mg) : Bd T.f__law_right.fd ["pot"] 1 [] := bd_of T.f__law_right.T fun _ _ _ _ _ _ us ws h1 h2 => match us, ws, h1, h2 with | [_], [], _, _ => rfl
theorem Txt.b_is_name_1 (T : Txt K mg) : Bd T.f_is_name.fd ["value"] 1 [] := bd_of T.f_is_name.T fun _ _ _ _ _ _ us ws h1 h2 => match us, ws, h1, h2 with | [_], [], _, _ => rfl
theorem sc_is_name : FnScope ["value", "sign"] ["value"] (defScope s_is_name) := ⟨rfl, rfl, rfl, by decide +kernel, rfl, by decide +kernel, by decide +kernel⟩
theorem d_is_name (T : Txt K mg) (S : Sps)    {W : WX} {f : Addr} {cdv : Value} {A : Around} {outer : List Env} {s : Shared} {H : Hp} {E : XK} (hr : Room 0 (A.deeper (envOfC "is_name" (defScope s_is_name) s.heap.objs.size f cdv)))
    (hF : FmP (cxOf (L2.CX P w) P w K mg base ["value", "sign"] "is_name" (defScope s_is_name) f cdv A outer s H E) K W w) : RSs (fmOf _ K W w hF) (defBody s_is_name) (w_is_name S T.C) := by
  unfold w_is_name
  exact (rss_cons (rs_if (rw_t (rw_or (rt_not (rt_v (re_isTy "str" (rr_n 0) (fun _ => T.n_isinstance) (fun _ => T.n_str)))) (rw_or (rt_not (rt_chain od_lt od_le (rr_e re_int) (rr_e (re_b cd_len (fun _ => T.n_len) (rrs_cons (rr_n 0) rrs_nil))) (rr_e (re_gI (fun _ => T.c_MOST_SIGNS.choose_spec))))) (rw_or1 (rt_cmp od_notIn (rr_e (re_ix (rr_n 0) (rr_e re_int))) (rr_e (re_gS (fun _ => T.c_LETTERS.choose_spec)))))))) (rss_one (rs_ret re_bl)) rss_nil)
  (rss_one (rs_ret (re_b cd_all (fun _ => T.n_all) (rrs_cons (rr_e (re_lc (ri_st (re_n 0)) (own := [("sign", 1)]) (fun _ => blkOk_by (N := ["value", "sign"]) (sc := defScope s_is_name) (by decide +kernel)) (rg_n 1 (by decide)) rts_nil (re_or (re_cmp od_in (rr_n 1) (rr_e (re_gS (fun _ => T.c_LETTERS.choose_spec)))) (re_one (re_cmp od_in (rr_n 1) (rr_e (re_gS (fun _ => T.c_FIGURES.choose_spec)))))))) rrs_nil)))))
theorem g_is_name (T : Txt K mg) (S : Sps)     (keep : keeps [.fz] 2 S.is_name (w_is_name S T.C)) : FnG P w K mg base 1 T.f_is_name.f T.f_is_name.fd ["value"] (spL K [.fz] S.is_name) :=
  FnG.pu T.f_is_name.T sc_is_name rfl (by decide) (fun W cdv A outer s H E hF hr => d_is_name T S   hr hF) keep
theorem sc_check_house : FnScope ["house"] ["house"] (defScope s_check_house) := ⟨rfl, rfl, rfl, by decide +kernel, rfl, by decide +kernel, by decide +kernel⟩
theorem d_check_house (T : Txt K mg) (S : Sps)    {W : WX} {f : Addr} {cdv : Value} {A : Around} {outer : List Env} {s : Shared} {H : Hp} {E : XK} (hr : Room 6 (A.deeper (envOfC "check_house" (defScope s_check_house) s.heap.objs.size f cdv)))
    (hF : FmP (cxOf (L2.CX P w) P w K mg base ["house"] "check_house" (defScope s_check_house) f cdv A outer s H E) K W w) : RSs (fmOf _ K W w hF) (defBody s_check_house) (w_check_house S T.C) := by
  unfold w_check_house
  exact (rss_one (rs_if (rt_not (rt_v (re_isC T.C T.ic (rr_n 0) (fun _ => T.n_isinstance) (fun _ => T.mH)))) (rss_one rs_never) rss_nil))
theorem g_check_house (T : Txt K mg) (S : Sps)     (keep : keeps [.fz] 1 S.check_house (w_check_house S T.C)) : FnG P w K mg base 7 T.f_check_house.f T.f_check_house.fd ["house"] (spL K [.fz] S.check_house) :=
  FnG.pu T.f_check_house.T sc_check_house rfl (by decide) (fun W cdv A outer s H E hF hr => d_check_house T S   hr hF) keep
theorem sc_check_room : FnScope ["house", "value"] ["house", "value"] (defScope s_check_room) := ⟨rfl, rfl, rfl, by decide +kernel, rfl, by decide +kernel, by decide +kernel⟩
theorem d_check_room (T : Txt K mg) (S : Sps)    {W : WX} {f : Addr} {cdv : Value} {A : Around} {outer : List Env} {s : Shared} {H : Hp} {E : XK} (hr : Room 6 (A.deeper (envOfC "check_room" (defScope s_check_room) s.heap.objs.size f cdv)))
    (hF : FmP (cxOf (L2.CX P w) P w K mg base ["house", "value"] "check_room" (defScope s_check_room) f cdv A outer s H E) K W w) : RSs (fmOf _ K W w hF) (defBody s_check_room) (w_check_room S T.C) := by
  unfold w_check_room
  exact (rss_one (rs_if (rw_t (rw_or (rt_not (rt_v (re_isTy "str" (rr_n 1) (fun _ => T.n_isinstance) (fun _ => T.n_str)))) (rw_or1 (rt_cmp od_notIn (rr_n 1) (rr_e (re_propT T.cl T.p_rooms (fun _ => T.g_rooms) (fun _ => hr.mono (by decide)) T.b_rooms (rr_n 0))))))) (rss_one rs_never) rss_nil))
theorem g_check_room (T : Txt K mg) (S : Sps)     (keep : keeps [.fz, .fz] 2 S.check_room (w_check_room S T.C)) : FnG P w K mg base 7 T.f_check_room.f T.f_check_room.fd ["house", "value"] (spL K [.fz, .fz] S.check_room) :=
  FnG.pu T.f_check_room.T sc_check_room rfl (by decide) (fun W cdv A outer s H E hF hr => d_check_room T S   hr hF) keep
theorem sc_is_lot_of : FnScope ["house", "value", "room"] ["house", "value"] (defScope s_is_lot_of) := ⟨rfl, rfl, rfl, by decide +kernel, rfl, by decide +kernel, by decide +kernel⟩
theorem d_is_lot_of (T : Txt K mg) (S : Sps)    {W : WX} {f : Addr} {cdv : Value} {A : Around} {outer : List Env} {s : Shared} {H : Hp} {E : XK} (hr : Room 3 (A.deeper (envOfC "is_lot_of" (defScope s_is_lot_of) s.heap.objs.size f cdv)))
    (hF : FmP (cxOf (L2.CX P w) P w K mg base ["house", "value", "room"] "is_lot_of" (defScope s_is_lot_of) f cdv A outer s H E) K W w) : RSs (fmOf _ K W w hF) (defBody s_is_lot_of) (w_is_lot_of S T.C) := by
  unfold w_is_lot_of
  exact (rss_cons (rs_if (rw_t (rw_or (rt_not (rt_v (re_isTy "tuple" (rr_n 1) (fun _ => T.n_isinstance) (fun _ => T.n_tuple)))) (rw_or1 (rt_not (rt_v (re_b cd_all (fun _ => T.n_all) (rrs_cons (rr_e (re_lc (ri_sq (re_n 1)) (own := [("room", 2)]) (fun _ => blkOk_by (N := ["house", "value", "room"]) (sc := defScope s_is_lot_of) (by decide +kernel)) (rg_n 2 (by decide)) rts_nil (re_isTy "str" (rr_n 2) (fun _ => T.n_isinstance) (fun _ => T.n_str)))) rrs_nil))))))) (rss_one (rs_ret re_bl)) rss_nil)
  (rss_one (rs_ret (re_cmp od_eq (rr_n 1) (rr_e (re_ty cd_tuple (fun _ => T.n_tuple) (rrs_cons (rr_e (re_lc (ri_sq (re_propT T.cl T.p_rooms (fun _ => T.g_rooms) (fun _ => hr.mono (by decide)) T.b_rooms (rr_n 0))) (own := [("room", 2)]) (fun _ => blkOk_by (N := ["house", "value", "room"]) (sc := defScope s_is_lot_of) (by decide +kernel)) (rg_n 2 (by decide)) (rts_one (rt_cmp od_in (rr_n 2) (rr_n 1))) (re_n 2))) rrs_nil)))))))
theorem g_is_lot_of (T : Txt K mg) (S : Sps)     (keep : keeps [.fz, .fz] 3 S.is_lot_of (w_is_lot_of S T.C)) : FnG P w K mg base 4 T.f_is_lot_of.f T.f_is_lot_of.fd ["house", "value"] (spL K [.fz, .fz] S.is_lot_of) :=
  FnG.pu T.f_is_lot_of.T sc_is_lot_of rfl (by decide) (fun W cdv A outer s H E hF hr => d_is_lot_of T S   hr hF) keep
theorem sc_check_lot : FnScope ["house", "lot"] ["house", "lot"] (defScope s_check_lot) := ⟨rfl, rfl, rfl, by decide +kernel, rfl, by decide +kernel, by decide +kernel⟩
theorem d_check_lot (T : Txt K mg) (S : Sps)  (kp_check_house : FnG P w K mg base 7 T.f_check_house.f T.f_check_house.fd ["house"] (spL K [.fz] S.check_house)) (kp_is_lot_of : FnG P w K mg base 4 T.f_is_lot_of.f T.f_is_lot_of.fd ["house", "value"] (spL K [.fz, .fz] S.is_lot_of))  {W : WX} {f : Addr} {cdv : Value} {A : Around} {outer : List Env} {s : Shared} {H : Hp} {E : XK} (hr : Room 7 (A.deeper (envOfC "check_lot" (defScope s_check_lot) s.heap.objs.size f cdv)))
    (hF : FmP (cxOf (L2.CX P w) P w K mg base ["house", "lot"] "check_lot" (defScope s_check_lot) f cdv A outer s H E) K W w) : RSs (fmOf _ K W w hF) (defBody s_check_lot) (w_check_lot S T.C) := by
  unfold w_check_lot
  exact (rss_cons (rs_drop (re_call (fun _ => ⟨kp_check_house, hr.mono (by decide)⟩) (fun _ => T.f_check_house.m) T.f_check_house.k T.b_check_house_1 (ras_v (re_n 0) ras_nil)))
  (rss_one (rs_if (rt_not (rt_v (re_call (fun _ => ⟨kp_is_lot_of, hr.mono (by decide)⟩) (fun _ => T.f_is_lot_of.m) T.f_is_lot_of.k T.b_is_lot_of_2 (ras_v (re_n 0) (ras_v (re_n 1) ras_nil))))) (rss_one rs_never) rss_nil)))
theorem g_check_lot (T : Txt K mg) (S : Sps)   (kp_check_house : FnG P w K mg base 7 T.f_check_house.f T.f_check_house.fd ["house"] (spL K [.fz] S.check_house)) (kp_is_lot_of : FnG P w K mg base 4 T.f_is_lot_of.f T.f_is_lot_of.fd ["house", "value"] (spL K [.fz, .fz] S.is_lot_of))  (keep : keeps [.fz, .fz] 2 S.check_lot (w_check_lot S T.C)) : FnG P w K mg base 8 T.f_check_lot.f T.f_check_lot.fd ["house", "lot"] (spL K [.fz, .fz] S.check_lot) :=
  FnG.pu T.f_check_lot.T sc_check_lot rfl (by decide) (fun W cdv A outer s H E hF hr => d_check_lot T S kp_check_house kp_is_lot_of  hr hF) keep
theorem sc_is_lot : FnScope ["house", "value"] ["house", "value"] (defScope s_is_lot) := ⟨rfl, rfl, rfl, by decide +kernel, rfl, by decide +kernel, by decide +kernel⟩
theorem d_is_lot (T : Txt K mg) (S : Sps)  (kp_check_house : FnG P w K mg base 7 T.f_check_house.f T.f_check_house.fd ["house"] (spL K [.fz] S.check_house)) (kp_is_lot_of : FnG P w K mg base 4 T.f_is_lot_of.f T.f_is_lot_of.fd ["house", "value"] (spL K [.fz, .fz] S.is_lot_of))  {W : WX} {f : Addr} {cdv : Value} {A : Around} {outer : List Env} {s : Shared} {H : Hp} {E : XK} (hr : Room 7 (A.deeper (envOfC "is_lot" (defScope s_is_lot) s.heap.objs.size f cdv)))
    (hF : FmP (cxOf (L2.CX P w) P w K mg base ["house", "value"] "is_lot" (defScope s_is_lot) f cdv A outer s H E) K W w) : RSs (fmOf _ K W w hF) (defBody s_is_lot) (w_is_lot S T.C) := by
  unfold w_is_lot
  exact (rss_cons (rs_drop (re_call (fun _ => ⟨kp_check_house, hr.mono (by decide)⟩) (fun _ => T.f_check_house.m) T.f_check_house.k T.b_check_house_1 (ras_v (re_n 0) ras_nil)))
  (rss_one (rs_ret (re_call (fun _ => ⟨kp_is_lot_of, hr.mono (by decide)⟩) (fun _ => T.f_is_lot_of.m) T.f_is_lot_of.k T.b_is_lot_of_2 (ras_v (re_n 0) (ras_v (re_n 1) ras_nil))))))
theorem g_is_lot (T : Txt K mg) (S : Sps)   (kp_check_house : FnG P w K mg base 7 T.f_check_house.f T.f_check_house.fd ["house"] (spL K [.fz] S.check_house)) (kp_is_lot_of : FnG P w K mg base 4 T.f_is_lot_of.f T.f_is_lot_of.fd ["house", "value"] (spL K [.fz, .fz] S.is_lot_of))  (keep : keeps [.fz, .fz] 2 S.is_lot (w_is_lot S T.C)) : FnG P w K mg base 8 T.f_is_lot.f T.f_is_lot.fd ["house", "value"] (spL K [.fz, .fz] S.is_lot) :=
  FnG.pu T.f_is_lot.T sc_is_lot rfl (by decide) (fun W cdv A outer s H E hF hr => d_is_lot T S kp_check_house kp_is_lot_of  hr hF) keep
theorem sc_bits_of : FnScope ["house", "lot", "at", "room"] ["house", "lot"] (defScope s_bits_of) := ⟨rfl, rfl, rfl, by decide +kernel, rfl, by decide +kernel, by decide +kernel⟩
theorem d_bits_of (T : Txt K mg) (S : Sps)    {W : WX} {f : Addr} {cdv : Value} {A : Around} {outer : List Env} {s : Shared} {H : Hp} {E : XK} (hr : Room 3 (A.deeper (envOfC "bits_of" (defScope s_bits_of) s.heap.objs.size f cdv)))
    (hF : FmP (cxOf (L2.CX P w) P w K mg base ["house", "lot", "at", "room"] "bits_of" (defScope s_bits_of) f cdv A outer s H E) K W w) : RSs (fmOf _ K W w hF) (defBody s_bits_of) (w_bits_of S T.C) := by
  unfold w_bits_of
  exact (rss_one (rs_ret (re_b cd_sum (fun _ => T.n_sum) (rrs_cons (rr_e (re_lc (ri_en (re_propT T.cl T.p_rooms (fun _ => T.g_rooms) (fun _ => hr.mono (by decide)) T.b_rooms (rr_n 0)) (fun _ => T.n_enumerate)) (own := [("at", 2), ("room", 3)]) (fun _ => blkOk_by (N := ["house", "lot", "at", "room"]) (sc := defScope s_bits_of) (by decide +kernel)) (rg_tn (rgs_cons (rg_n 2 (by decide)) (rgs_cons (rg_n 3 (by decide)) rgs_nil))) (rts_one (rt_cmp od_in (rr_n 3) (rr_n 1))) (re_op od_shl (rr_e re_int) (rr_n 2)))) rrs_nil))))
theorem g_bits_of (T : Txt K mg) (S : Sps)     (keep : keeps [.fz, .fz] 4 S.bits_of (w_bits_of S T.C)) : FnG P w K mg base 4 T.f_bits_of.f T.f_bits_of.fd ["house", "lot"] (spL K [.fz, .fz] S.bits_of) :=
  FnG.pu T.f_bits_of.T sc_bits_of rfl (by decide) (fun W cdv A outer s H E hF hr => d_bits_of T S   hr hF) keep
theorem sc_lot_of : FnScope ["house", "bits", "at", "room"] ["house", "bits"] (defScope s_lot_of) := ⟨rfl, rfl, rfl, by decide +kernel, rfl, by decide +kernel, by decide +kernel⟩
theorem d_lot_of (T : Txt K mg) (S : Sps)    {W : WX} {f : Addr} {cdv : Value} {A : Around} {outer : List Env} {s : Shared} {H : Hp} {E : XK} (hr : Room 3 (A.deeper (envOfC "lot_of" (defScope s_lot_of) s.heap.objs.size f cdv)))
    (hF : FmP (cxOf (L2.CX P w) P w K mg base ["house", "bits", "at", "room"] "lot_of" (defScope s_lot_of) f cdv A outer s H E) K W w) : RSs (fmOf _ K W w hF) (defBody s_lot_of) (w_lot_of S T.C) := by
  unfold w_lot_of
  exact (rss_one (rs_ret (re_ty cd_tuple (fun _ => T.n_tuple) (rrs_cons (rr_e (re_lc (ri_en (re_propT T.cl T.p_rooms (fun _ => T.g_rooms) (fun _ => hr.mono (by decide)) T.b_rooms (rr_n 0)) (fun _ => T.n_enumerate)) (own := [("at", 2), ("room", 3)]) (fun _ => blkOk_by (N := ["house", "bits", "at", "room"]) (sc := defScope s_lot_of) (by decide +kernel)) (rg_tn (rgs_cons (rg_n 2 (by decide)) (rgs_cons (rg_n 3 (by decide)) rgs_nil))) (rts_one (rt_cmp od_eq (rr_e (re_op od_and (rr_e (re_op od_shr (rr_n 1) (rr_n 2))) (rr_e re_int))) (rr_e re_int))) (re_n 3))) rrs_nil))))
theorem g_lot_of (T : Txt K mg) (S : Sps)     (keep : keeps [.fz, .fz] 4 S.lot_of (w_lot_of S T.C)) : FnG P w K mg base 4 T.f_lot_of.f T.f_lot_of.fd ["house", "bits"] (spL K [.fz, .fz] S.lot_of) :=
  FnG.pu T.f_lot_of.T sc_lot_of rfl (by decide) (fun W cdv A outer s H E hF hr => d_lot_of T S   hr hF) keep
theorem sc_near_of : FnScope ["house", "found", "one", "other", "here", "there"] ["house"] (defScope s_near_of) := ⟨rfl, rfl, rfl, by decide +kernel, rfl, by decide +kernel, by decide +kernel⟩
theorem d_near_of (T : Txt K mg) (S : Sps)    {W : WX} {f : Addr} {cdv : Value} {A : Around} {outer : List Env} {s : Shared} {H : Hp} {E : XK} (hr : Room 3 (A.deeper (envOfC "near_of" (defScope s_near_of) s.heap.objs.size f cdv)))
    (hF : FmP (cxOf (L2.CX P w) P w K mg base ["house", "found", "one", "other", "here", "there"] "near_of" (defScope s_near_of) f cdv A outer s H E) K W w) : RSs (fmOf _ K W w hF) (defBody s_near_of) (w_near_of S T.C) := by
  unfold w_near_of
  exact (rss_cons (rs_set 1 (re_op od_mul (rr_e (re_lst (rvs_cons re_int rvs_nil))) (rr_e (re_b cd_len (fun _ => T.n_len) (rrs_cons (rr_e (re_propT T.cl T.p_rooms (fun _ => T.g_rooms) (fun _ => hr.mono (by decide)) T.b_rooms (rr_n 0))) rrs_nil)))))
  (rss_cons (rs_for (vs := [2, 3]) (ri_sq (re_propT T.cl T.p_doors (fun _ => T.g_doors) (fun _ => hr.mono (by decide)) T.b_doors (rr_n 0))) (rg_tn (rgs_cons (rg_n 2 (by decide)) (rgs_cons (rg_n 3 (by decide)) rgs_nil))) (rss_cons (rs_par (rhs_cons (re_tix (re_prop T.cl T.p_rooms (fun _ => T.g_rooms) (fun _ => hr.mono (by decide)) T.b_rooms (rr_n 0)) (rrs_cons (rr_n 2) rrs_nil)) (rhs_cons (re_tix (re_prop T.cl T.p_rooms (fun _ => T.g_rooms) (fun _ => hr.mono (by decide)) T.b_rooms (rr_n 0)) (rrs_cons (rr_n 3) rrs_nil)) rhs_nil)))
  (rss_one (rs_asg (vs := []) (re_tup (rvs_cons (re_op od_or (rr_e (re_ix (rr_n 1) (rr_n 4))) (rr_e (re_op od_shl (rr_e re_int) (rr_n 5)))) (rvs_cons (re_op od_or (rr_e (re_ix (rr_n 1) (rr_n 5))) (rr_e (re_op od_shl (rr_e re_int) (rr_n 4)))) rvs_nil))) (rg_tn (rgs_cons (rg_ix 1 (rr_n 4)) (rgs_cons (rg_ix 1 (rr_n 5)) rgs_nil)))))))
  (rss_one (rs_ret (re_n 1)))))
theorem g_near_of (T : Txt K mg) (S : Sps)     (keep : keeps [.fz] 6 S.near_of (w_near_of S T.C)) : FnG P w K mg base 4 T.f_near_of.f T.f_near_of.fd ["house"] (spL K [.fz] S.near_of) :=
  FnG.pu T.f_near_of.T sc_near_of rfl (by decide) (fun W cdv A outer s H E hF hr => d_near_of T S   hr hF) keep
theorem sc_around : FnScope ["near", "bits", "found", "at", "beside"] ["near", "bits"] (defScope s_around) := ⟨rfl, rfl, rfl, by decide +kernel, rfl, by decide +kernel, by decide +kernel⟩
theorem d_around (T : Txt K mg) (S : Sps)    {W : WX} {f : Addr} {cdv : Value} {A : Around} {outer : List Env} {s : Shared} {H : Hp} {E : XK} (hr : Room 0 (A.deeper (envOfC "around" (defScope s_around) s.heap.objs.size f cdv)))
    (hF : FmP (cxOf (L2.CX P w) P w K mg base ["near", "bits", "found", "at", "beside"] "around" (defScope s_around) f cdv A outer s H E) K W w) : RSs (fmOf _ K W w hF) (defBody s_around) (w_around S T.C) := by
  unfold w_around
  exact (rss_cons (rs_set 2 re_int)
  (rss_cons (rs_for (vs := [3, 4]) (ri_en (re_n 0) (fun _ => T.n_enumerate)) (rg_tn (rgs_cons (rg_n 3 (by decide)) (rgs_cons (rg_n 4 (by decide)) rgs_nil))) (rss_one (rs_if (rt_cmp od_eq (rr_e (re_op od_and (rr_e (re_op od_shr (rr_n 1) (rr_n 3))) (rr_e re_int))) (rr_e re_int)) (rss_one (rs_set 2 (re_op od_or (rr_n 2) (rr_n 4)))) rss_nil)))
  (rss_one (rs_ret (re_n 2)))))
theorem g_around (T : Txt K mg) (S : Sps)     (keep : keeps [.fz, .fz] 5 S.around (w_around S T.C)) : FnG P w K mg base 1 T.f_around.f T.f_around.fd ["near", "bits"] (spL K [.fz, .fz] S.around) :=
  FnG.pu T.f_around.T sc_around rfl (by decide) (fun W cdv A outer s H E hF hr => d_around T S   hr hF) keep
theorem sc_edge_of : FnScope ["near", "bits"] ["near", "bits"] (defScope s_edge_of) := ⟨rfl, rfl, rfl, by decide +kernel, rfl, by decide +kernel, by decide +kernel⟩
theorem d_edge_of (T : Txt K mg) (S : Sps)  (kp_around : FnG P w K mg base 1 T.f_around.f T.f_around.fd ["near", "bits"] (spL K [.fz, .fz] S.around))  {W : WX} {f : Addr} {cdv : Value} {A : Around} {outer : List Env} {s : Shared} {H : Hp} {E : XK} (hr : Room 1 (A.deeper (envOfC "edge_of" (defScope s_edge_of) s.heap.objs.size f cdv)))
    (hF : FmP (cxOf (L2.CX P w) P w K mg base ["near", "bits"] "edge_of" (defScope s_edge_of) f cdv A outer s H E) K W w) : RSs (fmOf _ K W w hF) (defBody s_edge_of) (w_edge_of S T.C) := by
  unfold w_edge_of
  exact (rss_one (rs_ret (re_op od_and (rr_e (re_call (fun _ => ⟨kp_around, hr.mono (by decide)⟩) (fun _ => T.f_around.m) T.f_around.k T.b_around_2 (ras_v (re_n 0) (ras_v (re_n 1) ras_nil)))) (rr_e (re_un ud_inv (rr_n 1))))))
theorem g_edge_of (T : Txt K mg) (S : Sps)   (kp_around : FnG P w K mg base 1 T.f_around.f T.f_around.fd ["near", "bits"] (spL K [.fz, .fz] S.around))  (keep : keeps [.fz, .fz] 2 S.edge_of (w_edge_of S T.C)) : FnG P w K mg base 2 T.f_edge_of.f T.f_edge_of.fd ["near", "bits"] (spL K [.fz, .fz] S.edge_of) :=
  FnG.pu T.f_edge_of.T sc_edge_of rfl (by decide) (fun W cdv A outer s H E hF hr => d_edge_of T S kp_around  hr hF) keep
theorem sc_part_from : FnScope ["near", "free", "first", "found", "more"] ["near", "free", "first"] (defScope s_part_from) := ⟨rfl, rfl, rfl, by decide +kernel, rfl, by decide +kernel, by decide +kernel⟩
theorem d_part_from (T : Txt K mg) (S : Sps)  (kp_around : FnG P w K mg base 1 T.f_around.f T.f_around.fd ["near", "bits"] (spL K [.fz, .fz] S.around))  {W : WX} {f : Addr} {cdv : Value} {A : Around} {outer : List Env} {s : Shared} {H : Hp} {E : XK} (hr : Room 1 (A.deeper (envOfC "part_from" (defScope s_part_from) s.heap.objs.size f cdv)))
    (hF : FmP (cxOf (L2.CX P w) P w K mg base ["near", "free", "first", "found", "more"] "part_from" (defScope s_part_from) f cdv A outer s H E) K W w) : RSs (fmOf _ K W w hF) (defBody s_part_from) (w_part_from S T.C) := by
  unfold w_part_from
  exact (rss_cons (rs_par (rhs_cons (re_n 2) (rhs_cons (re_n 2) rhs_nil)))
  (rss_cons (rs_while (rt_cmp od_ne (rr_n 4) (rr_e re_int)) (rss_cons (rs_set 4 (re_op od_and (rr_e (re_op od_and (rr_e (re_call (fun _ => ⟨kp_around, hr.mono (by decide)⟩) (fun _ => T.f_around.m) T.f_around.k T.b_around_2 (ras_v (re_n 0) (ras_v (re_n 4) ras_nil)))) (rr_n 1))) (rr_e (re_un ud_inv (rr_n 3)))))
  (rss_one (rs_set 3 (re_op od_or (rr_n 3) (rr_n 4))))))
  (rss_one (rs_ret (re_n 3)))))
theorem g_part_from (T : Txt K mg) (S : Sps)   (kp_around : FnG P w K mg base 1 T.f_around.f T.f_around.fd ["near", "bits"] (spL K [.fz, .fz] S.around))  (keep : keeps [.fz, .fz, .fz] 5 S.part_from (w_part_from S T.C)) : FnG P w K mg base 2 T.f_part_from.f T.f_part_from.fd ["near", "free", "first"] (spL K [.fz, .fz, .fz] S.part_from) :=
  FnG.pu T.f_part_from.T sc_part_from rfl (by decide) (fun W cdv A outer s H E hF hr => d_part_from T S kp_around  hr hF) keep
theorem sc_parts_of : FnScope ["near", "free", "found", "left", "part"] ["near", "free"] (defScope s_parts_of) := ⟨rfl, rfl, rfl, by decide +kernel, rfl, by decide +kernel, by decide +kernel⟩
theorem d_parts_of (T : Txt K mg) (S : Sps)  (kp_part_from : FnG P w K mg base 2 T.f_part_from.f T.f_part_from.fd ["near", "free", "first"] (spL K [.fz, .fz, .fz] S.part_from))  {W : WX} {f : Addr} {cdv : Value} {A : Around} {outer : List Env} {s : Shared} {H : Hp} {E : XK} (hr : Room 3 (A.deeper (envOfC "parts_of" (defScope s_parts_of) s.heap.objs.size f cdv)))
    (hF : FmP (cxOf (L2.CX P w) P w K mg base ["near", "free", "found", "left", "part"] "parts_of" (defScope s_parts_of) f cdv A outer s H E) K W w) : RSs (fmOf _ K W w hF) (defBody s_parts_of) (w_parts_of S T.C) := by
  unfold w_parts_of
  exact (rss_cons (rs_par (rhs_cons (re_lst rvs_nil) (rhs_cons (re_n 1) rhs_nil)))
  (rss_cons (rs_while (rt_cmp od_ne (rr_n 3) (rr_e re_int)) (rss_cons (rs_set 4 (re_call (fun _ => ⟨kp_part_from, hr.mono (by decide)⟩) (fun _ => T.f_part_from.m) T.f_part_from.k T.b_part_from_3 (ras_v (re_n 0) (ras_v (re_n 1) (ras_v (re_op od_and (rr_n 3) (rr_e (re_op od_sub (rr_e re_int) (rr_n 3)))) ras_nil)))))
  (rss_cons (rs_drop (re_append 2 (rvs_cons (re_n 4) rvs_nil)))
  (rss_one (rs_set 3 (re_op od_and (rr_n 3) (rr_e (re_un ud_inv (rr_n 4)))))))))
  (rss_one (rs_ret (re_n 2)))))
theorem g_parts_of (T : Txt K mg) (S : Sps)   (kp_part_from : FnG P w K mg base 2 T.f_part_from.f T.f_part_from.fd ["near", "free", "first"] (spL K [.fz, .fz, .fz] S.part_from))  (keep : keeps [.fz, .fz] 5 S.parts_of (w_parts_of S T.C)) : FnG P w K mg base 4 T.f_parts_of.f T.f_parts_of.fd ["near", "free"] (spL K [.fz, .fz] S.parts_of) :=
  FnG.pu T.f_parts_of.T sc_parts_of rfl (by decide) (fun W cdv A outer s H E hF hr => d_parts_of T S kp_part_from  hr hF) keep
theorem sc_parts : FnScope ["house", "lot", "free", "part"] ["house", "lot"] (defScope s_parts) := ⟨rfl, rfl, rfl, by decide +kernel, rfl, by decide +kernel, by decide +kernel⟩
theorem d_parts (T : Txt K mg) (S : Sps)  (kp_check_lot : FnG P w K mg base 8 T.f_check_lot.f T.f_check_lot.fd ["house", "lot"] (spL K [.fz, .fz] S.check_lot)) (kp_bits_of : FnG P w K mg base 4 T.f_bits_of.f T.f_bits_of.fd ["house", "lot"] (spL K [.fz, .fz] S.bits_of)) (kp_parts_of : FnG P w K mg base 4 T.f_parts_of.f T.f_parts_of.fd ["near", "free"] (spL K [.fz, .fz] S.parts_of)) (kp_near_of : FnG P w K mg base 4 T.f_near_of.f T.f_near_of.fd ["house"] (spL K [.fz] S.near_of)) (kp_lot_of : FnG P w K mg base 4 T.f_lot_of.f T.f_lot_of.fd ["house", "bits"] (spL K [.fz, .fz] S.lot_of))  {W : WX} {f : Addr} {cdv : Value} {A : Around} {outer : List Env} {s : Shared} {H : Hp} {E : XK} (hr : Room 8 (A.deeper (envOfC "parts" (defScope s_parts) s.heap.objs.size f cdv)))
    (hF : FmP (cxOf (L2.CX P w) P w K mg base ["house", "lot", "free", "part"] "parts" (defScope s_parts) f cdv A outer s H E) K W w) : RSs (fmOf _ K W w hF) (defBody s_parts) (w_parts S T.C) := by
  unfold w_parts
  exact (rss_cons (rs_drop (re_call (fun _ => ⟨kp_check_lot, hr.mono (by decide)⟩) (fun _ => T.f_check_lot.m) T.f_check_lot.k T.b_check_lot_2 (ras_v (re_n 0) (ras_v (re_n 1) ras_nil))))
  (rss_cons (rs_set 2 (re_op od_sub (rr_e (re_op od_sub (rr_e (re_op od_shl (rr_e re_int) (rr_e (re_b cd_len (fun _ => T.n_len) (rrs_cons (rr_e (re_propT T.cl T.p_rooms (fun _ => T.g_rooms) (fun _ => hr.mono (by decide)) T.b_rooms (rr_n 0))) rrs_nil))))) (rr_e re_int))) (rr_e (re_call (fun _ => ⟨kp_bits_of, hr.mono (by decide)⟩) (fun _ => T.f_bits_of.m) T.f_bits_of.k T.b_bits_of_2 (ras_v (re_n 0) (ras_v (re_n 1) ras_nil))))))
  (rss_one (rs_ret (re_ty cd_tuple (fun _ => T.n_tuple) (rrs_cons (rr_e (re_lc (ri_sq (re_call (fun _ => ⟨kp_parts_of, hr.mono (by decide)⟩) (fun _ => T.f_parts_of.m) T.f_parts_of.k T.b_parts_of_2 (ras_v (re_call (fun _ => ⟨kp_near_of, hr.mono (by decide)⟩) (fun _ => T.f_near_of.m) T.f_near_of.k T.b_near_of_1 (ras_v (re_n 0) ras_nil)) (ras_v (re_n 2) ras_nil)))) (own := [("part", 3)]) (fun _ => blkOk_by (N := ["house", "lot", "free", "part"]) (sc := defScope s_parts) (by decide +kernel)) (rg_n 3 (by decide)) rts_nil (re_call (fun _ => ⟨kp_lot_of, hr.mono (by decide)⟩) (fun _ => T.f_lot_of.m) T.f_lot_of.k T.b_lot_of_2 (ras_v (re_n 0) (ras_v (re_n 3) ras_nil))))) rrs_nil))))))
theorem g_parts (T : Txt K mg) (S : Sps)   (kp_check_lot : FnG P w K mg base 8 T.f_check_lot.f T.f_check_lot.fd ["house", "lot"] (spL K [.fz, .fz] S.check_lot)) (kp_bits_of : FnG P w K mg base 4 T.f_bits_of.f T.f_bits_of.fd ["house", "lot"] (spL K [.fz, .fz] S.bits_of)) (kp_parts_of : FnG P w K mg base 4 T.f_parts_of.f T.f_parts_of.fd ["near", "free"] (spL K [.fz, .fz] S.parts_of)) (kp_near_of : FnG P w K mg base 4 T.f_near_of.f T.f_near_of.fd ["house"] (spL K [.fz] S.near_of)) (kp_lot_of : FnG P w K mg base 4 T.f_lot_of.f T.f_lot_of.fd ["house", "bits"] (spL K [.fz, .fz] S.lot_of))  (keep : keeps [.fz, .fz] 4 S.parts (w_parts S T.C)) : FnG P w K mg base 9 T.f_parts.f T.f_parts.fd ["house", "lot"] (spL K [.fz, .fz] S.parts) :=
  FnG.pu T.f_parts.T sc_parts rfl (by decide) (fun W cdv A outer s H E hF hr => d_parts T S kp_check_lot kp_bits_of kp_parts_of kp_near_of kp_lot_of  hr hF) keep
theorem sc_is_joined : FnScope ["house", "lot", "bits"] ["house", "lot"] (defScope s_is_joined) := ⟨rfl, rfl, rfl, by decide +kernel, rfl, by decide +kernel, by decide +kernel⟩
theorem d_is_joined (T : Txt K mg) (S : Sps)  (kp_check_lot : FnG P w K mg base 8 T.f_check_lot.f T.f_check_lot.fd ["house", "lot"] (spL K [.fz, .fz] S.check_lot)) (kp_bits_of : FnG P w K mg base 4 T.f_bits_of.f T.f_bits_of.fd ["house", "lot"] (spL K [.fz, .fz] S.bits_of)) (kp_parts_of : FnG P w K mg base 4 T.f_parts_of.f T.f_parts_of.fd ["near", "free"] (spL K [.fz, .fz] S.parts_of)) (kp_near_of : FnG P w K mg base 4 T.f_near_of.f T.f_near_of.fd ["house"] (spL K [.fz] S.near_of))  {W : WX} {f : Addr} {cdv : Value} {A : Around} {outer : List Env} {s : Shared} {H : Hp} {E : XK} (hr : Room 8 (A.deeper (envOfC "is_joined" (defScope s_is_joined) s.heap.objs.size f cdv)))
    (hF : FmP (cxOf (L2.CX P w) P w K mg base ["house", "lot", "bits"] "is_joined" (defScope s_is_joined) f cdv A outer s H E) K W w) : RSs (fmOf _ K W w hF) (defBody s_is_joined) (w_is_joined S T.C) := by
  unfold w_is_joined
  exact (rss_cons (rs_drop (re_call (fun _ => ⟨kp_check_lot, hr.mono (by decide)⟩) (fun _ => T.f_check_lot.m) T.f_check_lot.k T.b_check_lot_2 (ras_v (re_n 0) (ras_v (re_n 1) ras_nil))))
  (rss_cons (rs_set 2 (re_call (fun _ => ⟨kp_bits_of, hr.mono (by decide)⟩) (fun _ => T.f_bits_of.m) T.f_bits_of.k T.b_bits_of_2 (ras_v (re_n 0) (ras_v (re_n 1) ras_nil))))
  (rss_one (rs_ret (re_and (re_cmp od_ne (rr_n 2) (rr_e re_int)) (re_one (re_cmp od_eq (rr_e (re_b cd_len (fun _ => T.n_len) (rrs_cons (rr_e (re_call (fun _ => ⟨kp_parts_of, hr.mono (by decide)⟩) (fun _ => T.f_parts_of.m) T.f_parts_of.k T.b_parts_of_2 (ras_v (re_call (fun _ => ⟨kp_near_of, hr.mono (by decide)⟩) (fun _ => T.f_near_of.m) T.f_near_of.k T.b_near_of_1 (ras_v (re_n 0) ras_nil)) (ras_v (re_n 2) ras_nil)))) rrs_nil))) (rr_e re_int))))))))
theorem g_is_joined (T : Txt K mg) (S : Sps)   (kp_check_lot : FnG P w K mg base 8 T.f_check_lot.f T.f_check_lot.fd ["house", "lot"] (spL K [.fz, .fz] S.check_lot)) (kp_bits_of : FnG P w K mg base 4 T.f_bits_of.f T.f_bits_of.fd ["house", "lot"] (spL K [.fz, .fz] S.bits_of)) (kp_parts_of : FnG P w K mg base 4 T.f_parts_of.f T.f_parts_of.fd ["near", "free"] (spL K [.fz, .fz] S.parts_of)) (kp_near_of : FnG P w K mg base 4 T.f_near_of.f T.f_near_of.fd ["house"] (spL K [.fz] S.near_of))  (keep : keeps [.fz, .fz] 3 S.is_joined (w_is_joined S T.C)) : FnG P w K mg base 9 T.f_is_joined.f T.f_is_joined.fd ["house", "lot"] (spL K [.fz, .fz] S.is_joined) :=
  FnG.pu T.f_is_joined.T sc_is_joined rfl (by decide) (fun W cdv A outer s H E hF hr => d_is_joined T S kp_check_lot kp_bits_of kp_parts_of kp_near_of  hr hF) keep
theorem sc_beside : FnScope ["house", "lot"] ["house", "lot"] (defScope s_beside) := ⟨rfl, rfl, rfl, by decide +kernel, rfl, by decide +kernel, by decide +kernel⟩
theorem d_beside (T : Txt K mg) (S : Sps)  (kp_check_lot : FnG P w K mg base 8 T.f_check_lot.f T.f_check_lot.fd ["house", "lot"] (spL K [.fz, .fz] S.check_lot)) (kp_lot_of : FnG P w K mg base 4 T.f_lot_of.f T.f_lot_of.fd ["house", "bits"] (spL K [.fz, .fz] S.lot_of)) (kp_edge_of : FnG P w K mg base 2 T.f_edge_of.f T.f_edge_of.fd ["near", "bits"] (spL K [.fz, .fz] S.edge_of)) (kp_bits_of : FnG P w K mg base 4 T.f_bits_of.f T.f_bits_of.fd ["house", "lot"] (spL K [.fz, .fz] S.bits_of)) (kp_near_of : FnG P w K mg base 4 T.f_near_of.f T.f_near_of.fd ["house"] (spL K [.fz] S.near_of))  {W : WX} {f : Addr} {cdv : Value} {A : Around} {outer : List Env} {s : Shared} {H : Hp} {E : XK} (hr : Room 8 (A.deeper (envOfC "beside" (defScope s_beside) s.heap.objs.size f cdv)))
    (hF : FmP (cxOf (L2.CX P w) P w K mg base ["house", "lot"] "beside" (defScope s_beside) f cdv A outer s H E) K W w) : RSs (fmOf _ K W w hF) (defBody s_beside) (w_beside S T.C) := by
  unfold w_beside
  exact (rss_cons (rs_drop (re_call (fun _ => ⟨kp_check_lot, hr.mono (by decide)⟩) (fun _ => T.f_check_lot.m) T.f_check_lot.k T.b_check_lot_2 (ras_v (re_n 0) (ras_v (re_n 1) ras_nil))))
  (rss_one (rs_ret (re_call (fun _ => ⟨kp_lot_of, hr.mono (by decide)⟩) (fun _ => T.f_lot_of.m) T.f_lot_of.k T.b_lot_of_2 (ras_v (re_n 0) (ras_v (re_call (fun _ => ⟨kp_edge_of, hr.mono (by decide)⟩) (fun _ => T.f_edge_of.m) T.f_edge_of.k T.b_edge_of_2 (ras_v (re_call (fun _ => ⟨kp_near_of, hr.mono (by decide)⟩) (fun _ => T.f_near_of.m) T.f_near_of.k T.b_near_of_1 (ras_v (re_n 0) ras_nil)) (ras_v (re_call (fun _ => ⟨kp_bits_of, hr.mono (by decide)⟩) (fun _ => T.f_bits_of.m) T.f_bits_of.k T.b_bits_of_2 (ras_v (re_n 0) (ras_v (re_n 1) ras_nil))) ras_nil))) ras_nil))))))
theorem g_beside (T : Txt K mg) (S : Sps)   (kp_check_lot : FnG P w K mg base 8 T.f_check_lot.f T.f_check_lot.fd ["house", "lot"] (spL K [.fz, .fz] S.check_lot)) (kp_lot_of : FnG P w K mg base 4 T.f_lot_of.f T.f_lot_of.fd ["house", "bits"] (spL K [.fz, .fz] S.lot_of)) (kp_edge_of : FnG P w K mg base 2 T.f_edge_of.f T.f_edge_of.fd ["near", "bits"] (spL K [.fz, .fz] S.edge_of)) (kp_bits_of : FnG P w K mg base 4 T.f_bits_of.f T.f_bits_of.fd ["house", "lot"] (spL K [.fz, .fz] S.bits_of)) (kp_near_of : FnG P w K mg base 4 T.f_near_of.f T.f_near_of.fd ["house"] (spL K [.fz] S.near_of))  (keep : keeps [.fz, .fz] 2 S.beside (w_beside S T.C)) : FnG P w K mg base 9 T.f_beside.f T.f_beside.fd ["house", "lot"] (spL K [.fz, .fz] S.beside) :=
  FnG.pu T.f_beside.T sc_beside rfl (by decide) (fun W cdv A outer s H E hF hr => d_beside T S kp_check_lot kp_lot_of kp_edge_of kp_bits_of kp_near_of  hr hF) keep
theorem sc_rows_from : FnScope ["house", "one", "near", "found", "last", "more", "room", "other"] ["house", "one"] (defScope s_rows_from) := ⟨rfl, rfl, rfl, by decide +kernel, rfl, by decide +kernel, by decide +kernel⟩
theorem d_rows_from (T : Txt K mg) (S : Sps)  (kp_near_of : FnG P w K mg base 4 T.f_near_of.f T.f_near_of.fd ["house"] (spL K [.fz] S.near_of)) (kp_lot_of : FnG P w K mg base 4 T.f_lot_of.f T.f_lot_of.fd ["house", "bits"] (spL K [.fz, .fz] S.lot_of))  {W : WX} {f : Addr} {cdv : Value} {A : Around} {outer : List Env} {s : Shared} {H : Hp} {E : XK} (hr : Room 4 (A.deeper (envOfC "rows_from" (defScope s_rows_from) s.heap.objs.size f cdv)))
    (hF : FmP (cxOf (L2.CX P w) P w K mg base ["house", "one", "near", "found", "last", "more", "room", "other"] "rows_from" (defScope s_rows_from) f cdv A outer s H E) K W w) : RSs (fmOf _ K W w hF) (defBody s_rows_from) (w_rows_from S T.C) := by
  unfold w_rows_from
  exact (rss_cons (rs_par3 (rhs_cons (re_call (fun _ => ⟨kp_near_of, hr.mono (by decide)⟩) (fun _ => T.f_near_of.m) T.f_near_of.k T.b_near_of_1 (ras_v (re_n 0) ras_nil)) (rhs_cons (re_dic (rps_cons (re_n 1) (re_tup (rvs_cons (re_n 1) rvs_nil)) rps_nil)) (rhs_cons (re_lst (rvs_cons (re_n 1) rvs_nil)) rhs_nil))))
  (rss_cons (rs_while (rt_cmp od_ne (rr_n 4) (rr_e (re_lst rvs_nil))) (rss_cons (rs_set 5 (re_lst rvs_nil))
  (rss_cons (rs_for (vs := [6]) (ri_sq (re_n 4)) (rg_n 6 (by decide)) (rss_one (rs_for (vs := [7]) (ri_sq (re_call (fun _ => ⟨kp_lot_of, hr.mono (by decide)⟩) (fun _ => T.f_lot_of.m) T.f_lot_of.k T.b_lot_of_2 (ras_v (re_n 0) (ras_v (re_ix (rr_n 2) (rr_e (re_tix (re_prop T.cl T.p_rooms (fun _ => T.g_rooms) (fun _ => hr.mono (by decide)) T.b_rooms (rr_n 0)) (rrs_cons (rr_n 6) rrs_nil)))) ras_nil)))) (rg_n 7 (by decide)) (rss_one (rs_if (rt_cmp od_notIn (rr_n 7) (rr_n 3)) (rss_cons (rs_asg (vs := []) (re_tup (rvs_star (re_ix (rr_n 3) (rr_n 6)) (rvs_cons (re_n 7) rvs_nil))) (rg_ix 3 (rr_n 7)))
  (rss_one (rs_drop (re_append 5 (rvs_cons (re_n 7) rvs_nil))))) rss_nil)))))
  (rss_one (rs_set 4 (re_n 5))))))
  (rss_one (rs_ret (re_n 3)))))
theorem g_rows_from (T : Txt K mg) (S : Sps)   (kp_near_of : FnG P w K mg base 4 T.f_near_of.f T.f_near_of.fd ["house"] (spL K [.fz] S.near_of)) (kp_lot_of : FnG P w K mg base 4 T.f_lot_of.f T.f_lot_of.fd ["house", "bits"] (spL K [.fz, .fz] S.lot_of))  (keep : keeps [.fz, .fz] 8 S.rows_from (w_rows_from S T.C)) : FnG P w K mg base 5 T.f_rows_from.f T.f_rows_from.fd ["house", "one"] (spL K [.fz, .fz] S.rows_from) :=
  FnG.pu T.f_rows_from.T sc_rows_from rfl (by decide) (fun W cdv A outer s H E hF hr => d_rows_from T S kp_near_of kp_lot_of  hr hF) keep
theorem sc_way : FnScope ["house", "one", "other"] ["house", "one", "other"] (defScope s_way) := ⟨rfl, rfl, rfl, by decide +kernel, rfl, by decide +kernel, by decide +kernel⟩
theorem d_way (T : Txt K mg) (S : Sps)  (kp_check_house : FnG P w K mg base 7 T.f_check_house.f T.f_check_house.fd ["house"] (spL K [.fz] S.check_house)) (kp_check_room : FnG P w K mg base 7 T.f_check_room.f T.f_check_room.fd ["house", "value"] (spL K [.fz, .fz] S.check_room)) (kp_rows_from : FnG P w K mg base 5 T.f_rows_from.f T.f_rows_from.fd ["house", "one"] (spL K [.fz, .fz] S.rows_from))  {W : WX} {f : Addr} {cdv : Value} {A : Around} {outer : List Env} {s : Shared} {H : Hp} {E : XK} (hr : Room 7 (A.deeper (envOfC "way" (defScope s_way) s.heap.objs.size f cdv)))
    (hF : FmP (cxOf (L2.CX P w) P w K mg base ["house", "one", "other"] "way" (defScope s_way) f cdv A outer s H E) K W w) : RSs (fmOf _ K W w hF) (defBody s_way) (w_way S T.C) := by
  unfold w_way
  exact (rss_cons (rs_drop (re_call (fun _ => ⟨kp_check_house, hr.mono (by decide)⟩) (fun _ => T.f_check_house.m) T.f_check_house.k T.b_check_house_1 (ras_v (re_n 0) ras_nil)))
  (rss_cons (rs_drop (re_call (fun _ => ⟨kp_check_room, hr.mono (by decide)⟩) (fun _ => T.f_check_room.m) T.f_check_room.k T.b_check_room_2 (ras_v (re_n 0) (ras_v (re_n 1) ras_nil))))
  (rss_cons (rs_drop (re_call (fun _ => ⟨kp_check_room, hr.mono (by decide)⟩) (fun _ => T.f_check_room.m) T.f_check_room.k T.b_check_room_2 (ras_v (re_n 0) (ras_v (re_n 2) ras_nil))))
  (rss_one (rs_ret (re_get (rr_e (re_call (fun _ => ⟨kp_rows_from, hr.mono (by decide)⟩) (fun _ => T.f_rows_from.m) T.f_rows_from.k T.b_rows_from_2 (ras_v (re_n 0) (ras_v (re_n 1) ras_nil)))) (rr_n 2)))))))
theorem g_way (T : Txt K mg) (S : Sps)   (kp_check_house : FnG P w K mg base 7 T.f_check_house.f T.f_check_house.fd ["house"] (spL K [.fz] S.check_house)) (kp_check_room : FnG P w K mg base 7 T.f_check_room.f T.f_check_room.fd ["house", "value"] (spL K [.fz, .fz] S.check_room)) (kp_rows_from : FnG P w K mg base 5 T.f_rows_from.f T.f_rows_from.fd ["house", "one"] (spL K [.fz, .fz] S.rows_from))  (keep : keeps [.fz, .fz, .fz] 3 S.way (w_way S T.C)) : FnG P w K mg base 8 T.f_way.f T.f_way.fd ["house", "one", "other"] (spL K [.fz, .fz, .fz] S.way) :=
  FnG.pu T.f_way.T sc_way rfl (by decide) (fun W cdv A outer s H E hF hr => d_way T S kp_check_house kp_check_room kp_rows_from  hr hF) keep
theorem sc_is_row_of : FnScope ["house", "value", "room", "one", "other"] ["house", "value"] (defScope s_is_row_of) := ⟨rfl, rfl, rfl, by decide +kernel, rfl, by decide +kernel, by decide +kernel⟩
theorem d_is_row_of (T : Txt K mg) (S : Sps)  (kp_has_door : FnG P w K mg base 4 T.f_has_door.f T.f_has_door.fd ["house", "one", "other"] (spL K [.fz, .fz, .fz] S.has_door))  {W : WX} {f : Addr} {cdv : Value} {A : Around} {outer : List Env} {s : Shared} {H : Hp} {E : XK} (hr : Room 4 (A.deeper (envOfC "is_row_of" (defScope s_is_row_of) s.heap.objs.size f cdv)))
    (hF : FmP (cxOf (L2.CX P w) P w K mg base ["house", "value", "room", "one", "other"] "is_row_of" (defScope s_is_row_of) f cdv A outer s H E) K W w) : RSs (fmOf _ K W w hF) (defBody s_is_row_of) (w_is_row_of S T.C) := by
  unfold w_is_row_of
  exact (rss_cons (rs_if (rw_t (rw_or (rt_not (rt_v (re_isTy "tuple" (rr_n 1) (fun _ => T.n_isinstance) (fun _ => T.n_tuple)))) (rw_or (rt_cmp od_eqE (rr_n 1) (rr_e (re_tup rvs_nil))) (rw_or1 (rt_not (rt_v (re_b cd_all (fun _ => T.n_all) (rrs_cons (rr_e (re_lc (ri_sq (re_n 1)) (own := [("room", 2)]) (fun _ => blkOk_by (N := ["house", "value", "room", "one", "other"]) (sc := defScope s_is_row_of) (by decide +kernel)) (rg_n 2 (by decide)) rts_nil (re_isTy "str" (rr_n 2) (fun _ => T.n_isinstance) (fun _ => T.n_str)))) rrs_nil)))))))) (rss_one (rs_ret re_bl)) rss_nil)
  (rss_cons (rs_if (rt_not (rt_v (re_b cd_all (fun _ => T.n_all) (rrs_cons (rr_e (re_lc (ri_sq (re_n 1)) (own := [("room", 2)]) (fun _ => blkOk_by (N := ["house", "value", "room", "one", "other"]) (sc := defScope s_is_row_of) (by decide +kernel)) (rg_n 2 (by decide)) rts_nil (re_cmp od_in (rr_n 2) (rr_e (re_propT T.cl T.p_rooms (fun _ => T.g_rooms) (fun _ => hr.mono (by decide)) T.b_rooms (rr_n 0)))))) rrs_nil)))) (rss_one (rs_ret re_bl)) rss_nil)
  (rss_one (rs_ret (re_b cd_all (fun _ => T.n_all) (rrs_cons (rr_e (re_lc (ri_zp (re_n 1) (re_sl (rr_n 1) (ro_s (rr_e re_int)) ro_n) (fun _ => T.n_zip)) (own := [("one", 3), ("other", 4)]) (fun _ => blkOk_by (N := ["house", "value", "room", "one", "other"]) (sc := defScope s_is_row_of) (by decide +kernel)) (rg_tn (rgs_cons (rg_n 3 (by decide)) (rgs_cons (rg_n 4 (by decide)) rgs_nil))) rts_nil (re_call (fun _ => ⟨kp_has_door, hr.mono (by decide)⟩) (fun _ => T.f_has_door.m) T.f_has_door.k T.b_has_door_3 (ras_v (re_n 0) (ras_v (re_n 3) (ras_v (re_n 4) ras_nil)))))) rrs_nil))))))
theorem g_is_row_of (T : Txt K mg) (S : Sps)   (kp_has_door : FnG P w K mg base 4 T.f_has_door.f T.f_has_door.fd ["house", "one", "other"] (spL K [.fz, .fz, .fz] S.has_door))  (keep : keeps [.fz, .fz] 5 S.is_row_of (w_is_row_of S T.C)) : FnG P w K mg base 5 T.f_is_row_of.f T.f_is_row_of.fd ["house", "value"] (spL K [.fz, .fz] S.is_row_of) :=
  FnG.pu T.f_is_row_of.T sc_is_row_of rfl (by decide) (fun W cdv A outer s H E hF hr => d_is_row_of T S kp_has_door  hr hF) keep
theorem sc_shows_way : FnScope ["house", "one", "other", "value", "told"] ["house", "one", "other", "value"] (defScope s_shows_way) := ⟨rfl, rfl, rfl, by decide +kernel, rfl, by decide +kernel, by decide +kernel⟩
theorem d_shows_way (T : Txt K mg) (S : Sps)  (kp_way : FnG P w K mg base 8 T.f_way.f T.f_way.fd ["house", "one", "other"] (spL K [.fz, .fz, .fz] S.way)) (kp_is_row_of : FnG P w K mg base 5 T.f_is_row_of.f T.f_is_row_of.fd ["house", "value"] (spL K [.fz, .fz] S.is_row_of))  {W : WX} {f : Addr} {cdv : Value} {A : Around} {outer : List Env} {s : Shared} {H : Hp} {E : XK} (hr : Room 8 (A.deeper (envOfC "shows_way" (defScope s_shows_way) s.heap.objs.size f cdv)))
    (hF : FmP (cxOf (L2.CX P w) P w K mg base ["house", "one", "other", "value", "told"] "shows_way" (defScope s_shows_way) f cdv A outer s H E) K W w) : RSs (fmOf _ K W w hF) (defBody s_shows_way) (w_shows_way S T.C) := by
  unfold w_shows_way
  exact (rss_cons (rs_set 4 (re_call (fun _ => ⟨kp_way, hr.mono (by decide)⟩) (fun _ => T.f_way.m) T.f_way.k T.b_way_3 (ras_v (re_n 0) (ras_v (re_n 1) (ras_v (re_n 2) ras_nil)))))
  (rss_cons (rs_if (rw_t (rw_or (rt_cmp od_is (rr_n 4) (rr_e re_non)) (rw_or1 (rt_cmp od_is (rr_n 3) (rr_e re_non))))) (rss_one (rs_ret (re_and (re_cmp od_is (rr_n 4) (rr_e re_non)) (re_one (re_cmp od_is (rr_n 3) (rr_e re_non)))))) rss_nil)
  (rss_one (rs_ret (re_and (re_call (fun _ => ⟨kp_is_row_of, hr.mono (by decide)⟩) (fun _ => T.f_is_row_of.m) T.f_is_row_of.k T.b_is_row_of_2 (ras_v (re_n 0) (ras_v (re_n 3) ras_nil))) (re_and (re_cmp od_eq (rr_e (re_tup (rvs_cons (re_ix (rr_n 3) (rr_e re_int)) (rvs_cons (re_ix (rr_n 3) (rr_e (re_un ud_neg (rr_e re_int)))) rvs_nil)))) (rr_e (re_tup (rvs_cons (re_n 1) (rvs_cons (re_n 2) rvs_nil))))) (re_one (re_cmp od_eq (rr_e (re_b cd_len (fun _ => T.n_len) (rrs_cons (rr_n 3) rrs_nil))) (rr_e (re_b cd_len (fun _ => T.n_len) (rrs_cons (rr_n 4) rrs_nil)))))))))))
theorem g_shows_way (T : Txt K mg) (S : Sps)   (kp_way : FnG P w K mg base 8 T.f_way.f T.f_way.fd ["house", "one", "other"] (spL K [.fz, .fz, .fz] S.way)) (kp_is_row_of : FnG P w K mg base 5 T.f_is_row_of.f T.f_is_row_of.fd ["house", "value"] (spL K [.fz, .fz] S.is_row_of))  (keep : keeps [.fz, .fz, .fz, .fz] 5 S.shows_way (w_shows_way S T.C)) : FnG P w K mg base 9 T.f_shows_way.f T.f_shows_way.fd ["house", "one", "other", "value"] (spL K [.fz, .fz, .fz, .fz] S.shows_way) :=
  FnG.pu T.f_shows_way.T sc_shows_way rfl (by decide) (fun W cdv A outer s H E hF hr => d_shows_way T S kp_way kp_is_row_of  hr hF) keep
theorem sc_has_door : FnScope ["house", "one", "other"] ["house", "one", "other"] (defScope s_has_door) := ⟨rfl, rfl, rfl, by decide +kernel, rfl, by decide +kernel, by decide +kernel⟩
theorem d_has_door (T : Txt K mg) (S : Sps)    {W : WX} {f : Addr} {cdv : Value} {A : Around} {outer : List Env} {s : Shared} {H : Hp} {E : XK} (hr : Room 3 (A.deeper (envOfC "has_door" (defScope s_has_door) s.heap.objs.size f cdv)))
    (hF : FmP (cxOf (L2.CX P w) P w K mg base ["house", "one", "other"] "has_door" (defScope s_has_door) f cdv A outer s H E) K W w) : RSs (fmOf _ K W w hF) (defBody s_has_door) (w_has_door S T.C) := by
  unfold w_has_door
  exact (rss_one (rs_ret (re_or (re_cmp od_in (rr_e (re_tup (rvs_cons (re_n 1) (rvs_cons (re_n 2) rvs_nil)))) (rr_e (re_propT T.cl T.p_doors (fun _ => T.g_doors) (fun _ => hr.mono (by decide)) T.b_doors (rr_n 0)))) (re_one (re_cmp od_in (rr_e (re_tup (rvs_cons (re_n 2) (rvs_cons (re_n 1) rvs_nil)))) (rr_e (re_propT T.cl T.p_doors (fun _ => T.g_doors) (fun _ => hr.mono (by decide)) T.b_doors (rr_n 0))))))))
theorem g_has_door (T : Txt K mg) (S : Sps)     (keep : keeps [.fz, .fz, .fz] 3 S.has_door (w_has_door S T.C)) : FnG P w K mg base 4 T.f_has_door.f T.f_has_door.fd ["house", "one", "other"] (spL K [.fz, .fz, .fz] S.has_door) :=
  FnG.pu T.f_has_door.T sc_has_door rfl (by decide) (fun W cdv A outer s H E hF hr => d_has_door T S   hr hF) keep
theorem sc__law_pot : FnScope ["script", "place", "cell", "own", "small"] ["script", "place"] (defScope s__law_pot) := ⟨rfl, rfl, rfl, by decide +kernel, rfl, by decide +kernel, by decide +kernel⟩
theorem d__law_pot (T : Txt K mg) (S : Sps)    {W : WX} {f : Addr} {cdv : Value} {A : Around} {outer : List Env} {s : Shared} {H : Hp} {E : XK} (hr : Room 0 (A.deeper (envOfC "_law_pot" (defScope s__law_pot) s.heap.objs.size f cdv)))
    (hF : FmP (cxOf (L2.CX P w) P w K mg base ["script", "place", "cell", "own", "small"] "_law_pot" (defScope s__law_pot) f cdv A outer s H E) K W w) : RSs (fmOf _ K W w hF) (defBody s__law_pot) (w__law_pot S T.C) := by
  unfold w__law_pot
  exact (rss_cons (rs_set 2 (re_if (rt_cmp od_lt (rr_n 1) (rr_e (re_b cd_len (fun _ => T.n_len) (rrs_cons (rr_n 0) rrs_nil)))) (re_ix (rr_n 0) (rr_n 1)) (re_op od_add (rr_e (re_op od_add (rr_e (re_op od_mod (rr_e (re_b cd_sum (fun _ => T.n_sum) (rrs_cons (rr_e (re_sl (rr_n 0) ro_n (ro_s (rr_e re_int)))) rrs_nil))) (rr_e re_int))) (rr_e (re_op od_mul (rr_e re_int) (rr_n 1))))) (rr_e re_int))))
  (rss_cons (rs_set 3 (re_op od_mul (rr_e (re_op od_mod (rr_e (re_ty cd_int (fun _ => T.n_int) (rrs_cons (rr_e (re_b cd_abs (fun _ => T.n_abs) (rrs_cons (rr_n 2) rrs_nil))) rrs_nil))) (rr_e (re_op od_pow (rr_e (re_op od_pow (rr_e re_int) (rr_e re_int))) (rr_e re_int))))) (rr_e (re_ty cd_int (fun _ => T.n_int) (rrs_cons (rr_e (re_cmp od_ge (rr_e (re_b cd_abs (fun _ => T.n_abs) (rrs_cons (rr_n 2) rrs_nil))) (rr_e (re_op od_pow (rr_e re_int) (rr_e re_int))))) rrs_nil)))))
  (rss_cons (rs_set 4 (re_op od_mod (rr_e (re_ty cd_int (fun _ => T.n_int) (rrs_cons (rr_n 2) rrs_nil))) (rr_e re_int)))
  (rss_one (rs_ret (re_lst (rvs_cons (re_n 3) (rvs_cons (re_op od_mod (rr_e (re_ty cd_int (fun _ => T.n_int) (rrs_cons (rr_e (re_op od_add (rr_e (re_op od_add (rr_e (re_op od_mul (rr_n 4) (rr_e re_int))) (rr_e (re_op od_mul (rr_e (re_op od_mul (rr_e re_int) (rr_n 1))) (rr_n 1))))) (rr_e re_int))) rrs_nil))) (rr_e re_int)) (rvs_cons re_int rvs_nil)))))))))
theorem g__law_pot (T : Txt K mg) (S : Sps)     (keep : keeps [.fz, .fz] 5 S._law_pot (w__law_pot S T.C)) : FnG P w K mg base 1 T.f__law_pot.f T.f__law_pot.fd ["script", "place"] (spL K [.fz, .fz] S._law_pot) :=
  FnG.pu T.f__law_pot.T sc__law_pot rfl (by decide) (fun W cdv A outer s H E hF hr => d__law_pot T S   hr hF) keep
theorem sc__law_take : FnScope ["pot", "upto", "digit", "prime", "blend"] ["pot", "upto"] (defScope s__law_take) := ⟨rfl, rfl, rfl, by decide +kernel, rfl, by decide +kernel, by decide +kernel⟩
theorem d__law_take (T : Txt K mg) (S : Sps)    {W : WX} {f : Addr} {cdv : Value} {A : Around} {outer : List Env} {s : Shared} {H : Hp} {E : XK} (hr : Room 0 (A.deeper (envOfC "_law_take" (defScope s__law_take) s.heap.objs.size f cdv)))
    (hF : FmP (cxOf (L2.CX P w) P w K mg base ["pot", "upto", "digit", "prime", "blend"] "_law_take" (defScope s__law_take) f cdv A outer s H E) K W w) : RSs (fmOf _ K W w hF) (defBody s__law_take) (w__law_take S T.C) := by
  unfold w__law_take
  exact (rss_cons (rs_if (rt_cmp od_gt (rr_e (re_ix (rr_n 0) (rr_e re_int))) (rr_e re_int)) (rss_cons (rs_set 2 (re_op od_mod (rr_e (re_ty cd_int (fun _ => T.n_int) (rrs_cons (rr_e (re_ix (rr_n 0) (rr_e re_int))) rrs_nil))) (rr_n 1)))
  (rss_cons (rs_asg (vs := []) (re_op od_fdiv (rr_e (re_ix (rr_n 0) (rr_e re_int))) (rr_n 1)) (rg_ix 0 (rr_e re_int)))
  (rss_one (rs_ret (re_n 2))))) rss_nil)
  (rss_cons (rs_asg (vs := []) (re_op od_add (rr_e (re_ix (rr_n 0) (rr_e re_int))) (rr_e re_int)) (rg_ix 0 (rr_e re_int)))
  (rss_cons (rs_set 3 (re_ix (rr_e (re_lst (rvs_cons re_int (rvs_cons re_int (rvs_cons re_int (rvs_cons re_int (rvs_cons re_int rvs_nil))))))) (rr_e (re_op od_mod (rr_e (re_ty cd_int (fun _ => T.n_int) (rrs_cons (rr_e (re_ix (rr_n 0) (rr_e re_int))) rrs_nil))) (rr_e re_int)))))
  (rss_cons (rs_set 4 (re_op od_mod (rr_e (re_ty cd_int (fun _ => T.n_int) (rrs_cons (rr_e (re_op od_pow (rr_e (re_ty cd_int (fun _ => T.n_int) (rrs_cons (rr_e (re_op od_add (rr_e (re_op od_add (rr_e (re_ix (rr_n 0) (rr_e re_int))) (rr_e (re_op od_mul (rr_e (re_op od_mul (rr_e re_int) (rr_e (re_ix (rr_n 0) (rr_e re_int))))) (rr_e (re_ix (rr_n 0) (rr_e re_int))))))) (rr_e re_int))) rrs_nil))) (rr_e re_int))) rrs_nil))) (rr_n 3)))
  (rss_cons (rs_set 4 (re_op od_mod (rr_e (re_ty cd_int (fun _ => T.n_int) (rrs_cons (rr_e (re_op od_mul (rr_n 4) (rr_e (re_op od_add (rr_e (re_op od_mod (rr_e (re_ty cd_int (fun _ => T.n_int) (rrs_cons (rr_n 4) rrs_nil))) (rr_e re_int))) (rr_e (re_op od_mul (rr_e re_int) (rr_e (re_ix (rr_n 0) (rr_e re_int))))))))) rrs_nil))) (rr_e re_int)))
  (rss_one (rs_ret (re_op od_mod (rr_e (re_ty cd_int (fun _ => T.n_int) (rrs_cons (rr_e (re_op od_fdiv (rr_n 4) (rr_e re_int))) rrs_nil))) (rr_n 1)))))))))
theorem g__law_take (T : Txt K mg) (S : Sps)     (keep : keeps [.io, .fz] 5 S._law_take (w__law_take S T.C)) : FnG P w K mg base 1 T.f__law_take.f T.f__law_take.fd ["pot", "upto"] (spL K [.io, .fz] S._law_take) :=
  FnG.pu T.f__law_take.T sc__law_take rfl (by decide) (fun W cdv A outer s H E hF hr => d__law_take T S   hr hF) keep
theorem sc__law_of : FnScope ["pot", "some"] ["pot", "some"] (defScope s__law_of) := ⟨rfl, rfl, rfl, by decide +kernel, rfl, by decide +kernel, by decide +kernel⟩
theorem d__law_of (T : Txt K mg) (S : Sps)  (kp__law_take : FnG P w K mg base 1 T.f__law_take.f T.f__law_take.fd ["pot", "upto"] (spL K [.io, .fz] S._law_take))  {W : WX} {f : Addr} {cdv : Value} {A : Around} {outer : List Env} {s : Shared} {H : Hp} {E : XK} (hr : Room 1 (A.deeper (envOfC "_law_of" (defScope s__law_of) s.heap.objs.size f cdv)))
    (hF : FmP (cxOf (L2.CX P w) P w K mg base ["pot", "some"] "_law_of" (defScope s__law_of) f cdv A outer s H E) K W w) : RSs (fmOf _ K W w hF) (defBody s__law_of) (w__law_of S T.C) := by
  unfold w__law_of
  exact (rss_one (rs_ret (re_ix (rr_n 1) (rr_e (re_call (fun _ => ⟨kp__law_take, hr.mono (by decide)⟩) (fun _ => T.f__law_take.m) T.f__law_take.k T.b__law_take_2 (ras_s 0 (ras_v (re_b cd_len (fun _ => T.n_len) (rrs_cons (rr_n 1) rrs_nil)) ras_nil)))))))
theorem g__law_of (T : Txt K mg) (S : Sps)   (kp__law_take : FnG P w K mg base 1 T.f__law_take.f T.f__law_take.fd ["pot", "upto"] (spL K [.io, .fz] S._law_take))  (keep : keeps [.io, .fz] 2 S._law_of (w__law_of S T.C)) : FnG P w K mg base 2 T.f__law_of.f T.f__law_of.fd ["pot", "some"] (spL K [.io, .fz] S._law_of) :=
  FnG.pu T.f__law_of.T sc__law_of rfl (by decide) (fun W cdv A outer s H E hF hr => d__law_of T S kp__law_take  hr hF) keep
theorem sc__law_cells : FnScope ["script", "most"] ["script", "most"] (defScope s__law_cells) := ⟨rfl, rfl, rfl, by decide +kernel, rfl, by decide +kernel, by decide +kernel⟩
theorem d__law_cells (T : Txt K mg) (S : Sps)    {W : WX} {f : Addr} {cdv : Value} {A : Around} {outer : List Env} {s : Shared} {H : Hp} {E : XK} (hr : Room 0 (A.deeper (envOfC "_law_cells" (defScope s__law_cells) s.heap.objs.size f cdv)))
    (hF : FmP (cxOf (L2.CX P w) P w K mg base ["script", "most"] "_law_cells" (defScope s__law_cells) f cdv A outer s H E) K W w) : RSs (fmOf _ K W w hF) (defBody s__law_cells) (w__law_cells S T.C) := by
  unfold w__law_cells
  exact (rss_one (rs_ret (re_lrg1 (rr_e (re_b cd_max2 (fun _ => T.n_max) (rrs_cons (rr_e re_int) (rrs_cons (rr_e (re_b cd_min2 (fun _ => T.n_min) (rrs_cons (rr_n 1) (rrs_cons (rr_e (re_b cd_len (fun _ => T.n_len) (rrs_cons (rr_n 0) rrs_nil))) rrs_nil)))) rrs_nil)))) (fun _ => T.n_list) (fun _ => T.n_range))))
theorem g__law_cells (T : Txt K mg) (S : Sps)     (keep : keeps [.fz, .fz] 2 S._law_cells (w__law_cells S T.C)) : FnG P w K mg base 1 T.f__law_cells.f T.f__law_cells.fd ["script", "most"] (spL K [.fz, .fz] S._law_cells) :=
  FnG.pu T.f__law_cells.T sc__law_cells rfl (by decide) (fun W cdv A outer s H E hF hr => d__law_cells T S   hr hF) keep
theorem sc__law_some : FnScope ["pot", "pool", "many", "rest", "found", "lap"] ["pot", "pool", "many"] (defScope s__law_some) := ⟨rfl, rfl, rfl, by decide +kernel, rfl, by decide +kernel, by decide +kernel⟩
theorem d__law_some (T : Txt K mg) (S : Sps)  (kp__law_take : FnG P w K mg base 1 T.f__law_take.f T.f__law_take.fd ["pot", "upto"] (spL K [.io, .fz] S._law_take))  {W : WX} {f : Addr} {cdv : Value} {A : Around} {outer : List Env} {s : Shared} {H : Hp} {E : XK} (hr : Room 3 (A.deeper (envOfC "_law_some" (defScope s__law_some) s.heap.objs.size f cdv)))
    (hF : FmP (cxOf (L2.CX P w) P w K mg base ["pot", "pool", "many", "rest", "found", "lap"] "_law_some" (defScope s__law_some) f cdv A outer s H E) K W w) : RSs (fmOf _ K W w hF) (defBody s__law_some) (w__law_some S T.C) := by
  unfold w__law_some
  exact (rss_cons (rs_par (rhs_cons (re_ty cd_list (fun _ => T.n_list) (rrs_cons (rr_n 1) rrs_nil)) (rhs_cons (re_lst rvs_nil) rhs_nil)))
  (rss_cons (rs_for (vs := [5]) (ri_rng1 (rr_n 2) (fun _ => T.n_range)) (rg_n 5 (by decide)) (rss_one (rs_drop (re_append 4 (rvs_cons (re_popAt 3 (rvs_cons (re_call (fun _ => ⟨kp__law_take, hr.mono (by decide)⟩) (fun _ => T.f__law_take.m) T.f__law_take.k T.b__law_take_2 (ras_s 0 (ras_v (re_b cd_len (fun _ => T.n_len) (rrs_cons (rr_n 3) rrs_nil)) ras_nil))) rvs_nil)) rvs_nil)))))
  (rss_one (rs_ret (re_mv 4)))))
theorem g__law_some (T : Txt K mg) (S : Sps)   (kp__law_take : FnG P w K mg base 1 T.f__law_take.f T.f__law_take.fd ["pot", "upto"] (spL K [.io, .fz] S._law_take))  (keep : keeps [.io, .fz, .fz] 6 S._law_some (w__law_some S T.C)) : FnG P w K mg base 4 T.f__law_some.f T.f__law_some.fd ["pot", "pool", "many"] (spL K [.io, .fz, .fz] S._law_some) :=
  FnG.pu T.f__law_some.T sc__law_some rfl (by decide) (fun W cdv A outer s H E hF hr => d__law_some T S kp__law_take  hr hF) keep
theorem sc__law_name : FnScope ["pot", "some", "letters", "figures", "word", "lap", "at"] ["pot", "some"] (defScope s__law_name) := ⟨rfl, rfl, rfl, by decide +kernel, rfl, by decide +kernel, by decide +kernel⟩
theorem d__law_name (T : Txt K mg) (S : Sps)  (kp__law_take : FnG P w K mg base 1 T.f__law_take.f T.f__law_take.fd ["pot", "upto"] (spL K [.io, .fz] S._law_take))  {W : WX} {f : Addr} {cdv : Value} {A : Around} {outer : List Env} {s : Shared} {H : Hp} {E : XK} (hr : Room 1 (A.deeper (envOfC "_law_name" (defScope s__law_name) s.heap.objs.size f cdv)))
    (hF : FmP (cxOf (L2.CX P w) P w K mg base ["pot", "some", "letters", "figures", "word", "lap", "at"] "_law_name" (defScope s__law_name) f cdv A outer s H E) K W w) : RSs (fmOf _ K W w hF) (defBody s__law_name) (w__law_name S T.C) := by
  unfold w__law_name
  exact (rss_cons (rs_asg (vs := [2, 3]) (re_tup (rvs_cons re_str (rvs_cons re_str rvs_nil))) (rg_tn (rgs_cons (rg_n 2 (by decide)) (rgs_cons (rg_n 3 (by decide)) rgs_nil))))
  (rss_cons (rs_set 4 (re_ix (rr_n 2) (rr_e (re_call (fun _ => ⟨kp__law_take, hr.mono (by decide)⟩) (fun _ => T.f__law_take.m) T.f__law_take.k T.b__law_take_2 (ras_s 0 (ras_v re_int ras_nil))))))
  (rss_cons (rs_for (vs := [5]) (ri_rng1 (rr_e (re_call (fun _ => ⟨kp__law_take, hr.mono (by decide)⟩) (fun _ => T.f__law_take.m) T.f__law_take.k T.b__law_take_2 (ras_s 0 (ras_v re_int ras_nil)))) (fun _ => T.n_range)) (rg_n 5 (by decide)) (rss_one (rs_set 4 (re_op od_add (rr_n 4) (rr_e (re_ix (rr_e (re_op od_add (rr_n 2) (rr_n 3))) (rr_e (re_call (fun _ => ⟨kp__law_take, hr.mono (by decide)⟩) (fun _ => T.f__law_take.m) T.f__law_take.k T.b__law_take_2 (ras_s 0 (ras_v re_int ras_nil))))))))))
  (rss_cons (rs_for (vs := [6]) (ri_rng1 (rr_e (re_op od_add (rr_e (re_b cd_len (fun _ => T.n_len) (rrs_cons (rr_n 1) rrs_nil))) (rr_e re_int))) (fun _ => T.n_range)) (rg_n 6 (by decide)) (rss_one (rs_if (rt_cmp od_in (rr_n 4) (rr_n 1)) (rss_one (rs_set 4 (re_op od_add (rr_e re_str) (rr_e (re_ty cd_str (fun _ => T.n_str) (rrs_cons (rr_e (re_ty cd_int (fun _ => T.n_int) (rrs_cons (rr_n 6) rrs_nil))) rrs_nil)))))) rss_nil)))
  (rss_one (rs_ret (re_n 4)))))))
theorem g__law_name (T : Txt K mg) (S : Sps)   (kp__law_take : FnG P w K mg base 1 T.f__law_take.f T.f__law_take.fd ["pot", "upto"] (spL K [.io, .fz] S._law_take))  (keep : keeps [.io, .io] 7 S._law_name (w__law_name S T.C)) : FnG P w K mg base 2 T.f__law_name.f T.f__law_name.fd ["pot", "some"] (spL K [.io, .io] S._law_name) :=
  FnG.pu T.f__law_name.T sc__law_name rfl (by decide) (fun W cdv A outer s H E hF hr => d__law_name T S kp__law_take  hr hF) keep
theorem sc__law_names : FnScope ["pot", "many", "found", "lap"] ["pot", "many"] (defScope s__law_names) := ⟨rfl, rfl, rfl, by decide +kernel, rfl, by decide +kernel, by decide +kernel⟩
theorem d__law_names (T : Txt K mg) (S : Sps)  (kp__law_some : FnG P w K mg base 4 T.f__law_some.f T.f__law_some.fd ["pot", "pool", "many"] (spL K [.io, .fz, .fz] S._law_some)) (kp__law_take : FnG P w K mg base 1 T.f__law_take.f T.f__law_take.fd ["pot", "upto"] (spL K [.io, .fz] S._law_take)) (kp__law_name : FnG P w K mg base 2 T.f__law_name.f T.f__law_name.fd ["pot", "some"] (spL K [.io, .io] S._law_name))  {W : WX} {f : Addr} {cdv : Value} {A : Around} {outer : List Env} {s : Shared} {H : Hp} {E : XK} (hr : Room 4 (A.deeper (envOfC "_law_names" (defScope s__law_names) s.heap.objs.size f cdv)))
    (hF : FmP (cxOf (L2.CX P w) P w K mg base ["pot", "many", "found", "lap"] "_law_names" (defScope s__law_names) f cdv A outer s H E) K W w) : RSs (fmOf _ K W w hF) (defBody s__law_names) (w__law_names S T.C) := by
  unfold w__law_names
  exact (rss_cons (rs_set 2 (re_call (fun _ => ⟨kp__law_some, hr.mono (by decide)⟩) (fun _ => T.f__law_some.m) T.f__law_some.k T.b__law_some_3 (ras_s 0 (ras_v (re_lst (rvs_cons re_str (rvs_cons re_str (rvs_cons re_str (rvs_cons re_str (rvs_cons re_str (rvs_cons re_str rvs_nil))))))) (ras_v (re_b cd_min2 (fun _ => T.n_min) (rrs_cons (rr_n 1) (rrs_cons (rr_e (re_call (fun _ => ⟨kp__law_take, hr.mono (by decide)⟩) (fun _ => T.f__law_take.m) T.f__law_take.k T.b__law_take_2 (ras_s 0 (ras_v re_int ras_nil)))) rrs_nil))) ras_nil)))))
  (rss_cons (rs_for (vs := [3]) (ri_rng1 (rr_e (re_op od_sub (rr_n 1) (rr_e (re_b cd_len (fun _ => T.n_len) (rrs_cons (rr_n 2) rrs_nil))))) (fun _ => T.n_range)) (rg_n 3 (by decide)) (rss_one (rs_drop (re_append 2 (rvs_cons (re_call (fun _ => ⟨kp__law_name, hr.mono (by decide)⟩) (fun _ => T.f__law_name.m) T.f__law_name.k T.b__law_name_2 (ras_s 0 (ras_s 2 ras_nil))) rvs_nil)))))
  (rss_one (rs_ret (re_ty cd_tuple (fun _ => T.n_tuple) (rrs_cons (rr_e (re_call (fun _ => ⟨kp__law_some, hr.mono (by decide)⟩) (fun _ => T.f__law_some.m) T.f__law_some.k T.b__law_some_3 (ras_s 0 (ras_v (re_n 2) (ras_v (re_n 1) ras_nil))))) rrs_nil))))))
theorem g__law_names (T : Txt K mg) (S : Sps)   (kp__law_some : FnG P w K mg base 4 T.f__law_some.f T.f__law_some.fd ["pot", "pool", "many"] (spL K [.io, .fz, .fz] S._law_some)) (kp__law_take : FnG P w K mg base 1 T.f__law_take.f T.f__law_take.fd ["pot", "upto"] (spL K [.io, .fz] S._law_take)) (kp__law_name : FnG P w K mg base 2 T.f__law_name.f T.f__law_name.fd ["pot", "some"] (spL K [.io, .io] S._law_name))  (keep : keeps [.io, .fz] 4 S._law_names (w__law_names S T.C)) : FnG P w K mg base 5 T.f__law_names.f T.f__law_names.fd ["pot", "many"] (spL K [.io, .fz] S._law_names) :=
  FnG.pu T.f__law_names.T sc__law_names rfl (by decide) (fun W cdv A outer s H E hF hr => d__law_names T S kp__law_some kp__law_take kp__law_name  hr hF) keep
theorem sc__law_house : FnScope ["pot", "upto", "many", "kind", "rooms", "pairs", "at", "to", "across", "is_net", "is_row", "is_ring", "own", "line", "doors", "pair", "door"] ["pot", "upto"] (defScope s__law_house) := ⟨rfl, rfl, rfl, by decide +kernel, rfl, by decide +kernel, by decide +kernel⟩
theorem d__law_house (T : Txt K mg) (S : Sps)  (kp__law_take : FnG P w K mg base 1 T.f__law_take.f T.f__law_take.fd ["pot", "upto"] (spL K [.io, .fz] S._law_take)) (kp__law_names : FnG P w K mg base 5 T.f__law_names.f T.f__law_names.fd ["pot", "many"] (spL K [.io, .fz] S._law_names)) (kp__law_some : FnG P w K mg base 4 T.f__law_some.f T.f__law_some.fd ["pot", "pool", "many"] (spL K [.io, .fz, .fz] S._law_some))  {W : WX} {f : Addr} {cdv : Value} {A : Around} {outer : List Env} {s : Shared} {H : Hp} {E : XK} (hr : Room 5 (A.deeper (envOfC "_law_house" (defScope s__law_house) s.heap.objs.size f cdv)))
    (hF : FmP (cxOf (L2.CX P w) P w K mg base ["pot", "upto", "many", "kind", "rooms", "pairs", "at", "to", "across", "is_net", "is_row", "is_ring", "own", "line", "doors", "pair", "door"] "_law_house" (defScope s__law_house) f cdv A outer s H E) K W w) : RSs (fmOf _ K W w hF) (defBody s__law_house) (w__law_house S T.C) := by
  unfold w__law_house
  exact (rss_cons (rs_par (rhs_cons (re_op od_add (rr_e re_int) (rr_e (re_call (fun _ => ⟨kp__law_take, hr.mono (by decide)⟩) (fun _ => T.f__law_take.m) T.f__law_take.k T.b__law_take_2 (ras_s 0 (ras_v (re_n 1) ras_nil))))) (rhs_cons (re_call (fun _ => ⟨kp__law_take, hr.mono (by decide)⟩) (fun _ => T.f__law_take.m) T.f__law_take.k T.b__law_take_2 (ras_s 0 (ras_v re_int ras_nil))) rhs_nil)))
  (rss_cons (rs_par (rhs_cons (re_call (fun _ => ⟨kp__law_names, hr.mono (by decide)⟩) (fun _ => T.f__law_names.m) T.f__law_names.k T.b__law_names_2 (ras_s 0 (ras_v (re_n 2) ras_nil))) (rhs_cons (re_lst rvs_nil) rhs_nil)))
  (rss_cons (rs_for (vs := [6]) (ri_rng1 (rr_n 2) (fun _ => T.n_range)) (rg_n 6 (by decide)) (rss_one (rs_for (vs := [7]) (ri_rng1 (rr_n 6) (fun _ => T.n_range)) (rg_n 7 (by decide)) (rss_cons (rs_set 8 (re_op od_add (rr_e re_int) (rr_e (re_ty cd_int (fun _ => T.n_int) (rrs_cons (rr_e (re_cmp od_gt (rr_n 2) (rr_e re_int))) rrs_nil)))))
  (rss_cons (rs_set 9 (re_or (re_cmp od_eq (rr_e (re_op od_sub (rr_n 6) (rr_n 7))) (rr_n 8)) (re_one (re_and (re_cmp od_eq (rr_e (re_op od_sub (rr_n 6) (rr_n 7))) (rr_e re_int)) (re_one (re_cmp od_gt (rr_e (re_op od_mod (rr_n 6) (rr_n 8))) (rr_e re_int)))))))
  (rss_cons (rs_par (rhs_cons (re_cmp od_eq (rr_e (re_op od_sub (rr_n 6) (rr_n 7))) (rr_e re_int)) (rhs_cons (re_cmp od_in (rr_e (re_op od_sub (rr_n 6) (rr_n 7))) (rr_e (re_tup (rvs_cons re_int (rvs_cons (re_op od_sub (rr_n 2) (rr_e re_int)) rvs_nil))))) rhs_nil)))
  (rss_cons (rs_set 12 (re_ix (rr_e (re_lst (rvs_cons (re_n 10) (rvs_cons (re_n 11) (rvs_cons (re_n 9) (rvs_cons (re_cmp od_lt (rr_n 2) (rr_e re_int)) (rvs_cons re_bl (rvs_cons (re_cmp od_eq (rr_e (re_call (fun _ => ⟨kp__law_take, hr.mono (by decide)⟩) (fun _ => T.f__law_take.m) T.f__law_take.k T.b__law_take_2 (ras_s 0 (ras_v re_int ras_nil)))) (rr_e re_int)) rvs_nil)))))))) (rr_n 3)))
  (rss_one (rs_drop (re_extend 5 (rvs_cons (re_if (rw_t (rw_or (rt_v (re_n 12)) (rw_or1 (rt_cmp od_eq (rr_e (re_call (fun _ => ⟨kp__law_take, hr.mono (by decide)⟩) (fun _ => T.f__law_take.m) T.f__law_take.k T.b__law_take_2 (ras_s 0 (ras_v (re_if (rt_cmp od_eq (rr_n 3) (rr_e re_int)) re_int re_int) ras_nil)))) (rr_e re_int))))) (re_lst (rvs_cons (re_tup (rvs_cons (re_ix (rr_n 4) (rr_n 7)) (rvs_cons (re_ix (rr_n 4) (rr_n 6)) rvs_nil))) rvs_nil)) (re_lst rvs_nil)) rvs_nil)))))))))))
  (rss_cons (rs_set 13 (re_call (fun _ => ⟨kp__law_some, hr.mono (by decide)⟩) (fun _ => T.f__law_some.m) T.f__law_some.k T.b__law_some_3 (ras_s 0 (ras_v (re_n 4) (ras_v (re_n 2) ras_nil)))))
  (rss_cons (rs_lc 14 (ri_sq (re_call (fun _ => ⟨kp__law_some, hr.mono (by decide)⟩) (fun _ => T.f__law_some.m) T.f__law_some.k T.b__law_some_3 (ras_s 0 (ras_v (re_n 5) (ras_v (re_b cd_min2 (fun _ => T.n_min) (rrs_cons (rr_e re_int) (rrs_cons (rr_e (re_b cd_len (fun _ => T.n_len) (rrs_cons (rr_n 5) rrs_nil))) rrs_nil))) ras_nil))))) (own := [("pair", 15)]) (fun _ => blkOk_by (N := ["pot", "upto", "many", "kind", "rooms", "pairs", "at", "to", "across", "is_net", "is_row", "is_ring", "own", "line", "doors", "pair", "door"]) (sc := defScope s__law_house) (by decide +kernel)) (rg_n 15 (by decide)) rts_nil (re_call (fun _ => ⟨kp__law_some, hr.mono (by decide)⟩) (fun _ => T.f__law_some.m) T.f__law_some.k T.b__law_some_3 (ras_s 0 (ras_v (re_n 15) (ras_v re_int ras_nil)))) (fun _ => sw_true rfl rfl rfl (by decide +kernel)))
  (rss_one (rs_ret (re_tup (rvs_cons (re_ty cd_tuple (fun _ => T.n_tuple) (rrs_cons (rr_n 13) rrs_nil)) (rvs_cons (re_ty cd_tuple (fun _ => T.n_tuple) (rrs_cons (rr_e (re_lc (ri_sq (re_n 14)) (own := [("door", 16)]) (fun _ => blkOk_by (N := ["pot", "upto", "many", "kind", "rooms", "pairs", "at", "to", "across", "is_net", "is_row", "is_ring", "own", "line", "doors", "pair", "door"]) (sc := defScope s__law_house) (by decide +kernel)) (rg_n 16 (by decide)) rts_nil (re_ty cd_tuple (fun _ => T.n_tuple) (rrs_cons (rr_n 16) rrs_nil)))) rrs_nil)) rvs_nil))))))))))
theorem g__law_house (T : Txt K mg) (S : Sps)   (kp__law_take : FnG P w K mg base 1 T.f__law_take.f T.f__law_take.fd ["pot", "upto"] (spL K [.io, .fz] S._law_take)) (kp__law_names : FnG P w K mg base 5 T.f__law_names.f T.f__law_names.fd ["pot", "many"] (spL K [.io, .fz] S._law_names)) (kp__law_some : FnG P w K mg base 4 T.f__law_some.f T.f__law_some.fd ["pot", "pool", "many"] (spL K [.io, .fz, .fz] S._law_some))  (keep : keeps [.io, .fz] 17 S._law_house (w__law_house S T.C)) : FnG P w K mg base 6 T.f__law_house.f T.f__law_house.fd ["pot", "upto"] (spL K [.io, .fz] S._law_house) :=
  FnG.pu T.f__law_house.T sc__law_house rfl (by decide) (fun W cdv A outer s H E hF hr => d__law_house T S kp__law_take kp__law_names kp__law_some  hr hF) keep
theorem sc__law_text : FnScope ["rooms", "doors", "room", "door"] ["rooms", "doors"] (defScope s__law_text) := ⟨rfl, rfl, rfl, by decide +kernel, rfl, by decide +kernel, by decide +kernel⟩
theorem d__law_text (T : Txt K mg) (S : Sps)    {W : WX} {f : Addr} {cdv : Value} {A : Around} {outer : List Env} {s : Shared} {H : Hp} {E : XK} (hr : Room 3 (A.deeper (envOfC "_law_text" (defScope s__law_text) s.heap.objs.size f cdv)))
    (hF : FmP (cxOf (L2.CX P w) P w K mg base ["rooms", "doors", "room", "door"] "_law_text" (defScope s__law_text) f cdv A outer s H E) K W w) : RSs (fmOf _ K W w hF) (defBody s__law_text) (w__law_text S T.C) := by
  unfold w__law_text
  exact (rss_one (rs_ret (re_join (rr_e re_str) (rrs_cons (rr_e (re_op od_add (rr_e (re_lc (ri_sq (re_n 0)) (own := [("room", 2)]) (fun _ => blkOk_by (N := ["rooms", "doors", "room", "door"]) (sc := defScope s__law_text) (by decide +kernel)) (rg_n 2 (by decide)) rts_nil (re_op od_add (rr_e re_str) (rr_n 2)))) (rr_e (re_lc (ri_sq (re_n 1)) (own := [("door", 3)]) (fun _ => blkOk_by (N := ["rooms", "doors", "room", "door"]) (sc := defScope s__law_text) (by decide +kernel)) (rg_n 3 (by decide)) rts_nil (re_join (rr_e re_str) (rrs_cons (rr_e (re_op od_add (rr_e (re_tup (rvs_cons re_str rvs_nil))) (rr_e (re_ty cd_tuple (fun _ => T.n_tuple) (rrs_cons (rr_n 3) rrs_nil))))) rrs_nil)))))) rrs_nil))))
theorem g__law_text (T : Txt K mg) (S : Sps)     (keep : keeps [.fz, .fz] 4 S._law_text (w__law_text S T.C)) : FnG P w K mg base 4 T.f__law_text.f T.f__law_text.fd ["rooms", "doors"] (spL K [.fz, .fz] S._law_text) :=
  FnG.pu T.f__law_text.T sc__law_text rfl (by decide) (fun W cdv A outer s H E hF hr => d__law_text T S   hr hF) keep
theorem sc__law_near : FnScope ["rooms", "doors", "found", "room", "some", "one", "other"] ["rooms", "doors"] (defScope s__law_near) := ⟨rfl, rfl, rfl, by decide +kernel, rfl, by decide +kernel, by decide +kernel⟩
theorem d__law_near (T : Txt K mg) (S : Sps)    {W : WX} {f : Addr} {cdv : Value} {A : Around} {outer : List Env} {s : Shared} {H : Hp} {E : XK} (hr : Room 0 (A.deeper (envOfC "_law_near" (defScope s__law_near) s.heap.objs.size f cdv)))
    (hF : FmP (cxOf (L2.CX P w) P w K mg base ["rooms", "doors", "found", "room", "some", "one", "other"] "_law_near" (defScope s__law_near) f cdv A outer s H E) K W w) : RSs (fmOf _ K W w hF) (defBody s__law_near) (w__law_near S T.C) := by
  unfold w__law_near
  exact (rss_cons (rs_set 2 re_dic0)
  (rss_cons (rs_for (vs := [3]) (ri_sq (re_n 0)) (rg_n 3 (by decide)) (rss_cons (rs_set 4 (re_lc (ri_sq (re_n 1)) (own := [("one", 5), ("other", 6)]) (fun _ => blkOk_by (N := ["rooms", "doors", "found", "room", "some", "one", "other"]) (sc := defScope s__law_near) (by decide +kernel)) (rg_tn (rgs_cons (rg_n 5 (by decide)) (rgs_cons (rg_n 6 (by decide)) rgs_nil))) (rts_one (rt_cmp od_in (rr_n 3) (rr_e (re_tup (rvs_cons (re_n 5) (rvs_cons (re_n 6) rvs_nil)))))) (re_if (rt_cmp od_eq (rr_n 6) (rr_n 3)) (re_n 5) (re_n 6))))
  (rss_one (rs_asg (vs := []) (re_ty cd_tuple (fun _ => T.n_tuple) (rrs_cons (rr_e (re_lc (ri_sq (re_n 0)) (own := [("other", 6)]) (fun _ => blkOk_by (N := ["rooms", "doors", "found", "room", "some", "one", "other"]) (sc := defScope s__law_near) (by decide +kernel)) (rg_n 6 (by decide)) (rts_one (rt_cmp od_in (rr_n 6) (rr_n 4))) (re_n 6))) rrs_nil)) (rg_ix 2 (rr_n 3))))))
  (rss_one (rs_ret (re_n 2)))))
theorem g__law_near (T : Txt K mg) (S : Sps)     (keep : keeps [.fz, .fz] 7 S._law_near (w__law_near S T.C)) : FnG P w K mg base 1 T.f__law_near.f T.f__law_near.fd ["rooms", "doors"] (spL K [.fz, .fz] S._law_near) :=
  FnG.pu T.f__law_near.T sc__law_near rfl (by decide) (fun W cdv A outer s H E hF hr => d__law_near T S   hr hF) keep
theorem sc__law_parts : FnScope ["rooms", "near", "free", "found", "room", "part", "waiting", "other"] ["rooms", "near", "free"] (defScope s__law_parts) := ⟨rfl, rfl, rfl, by decide +kernel, rfl, by decide +kernel, by decide +kernel⟩
theorem d__law_parts (T : Txt K mg) (S : Sps)    {W : WX} {f : Addr} {cdv : Value} {A : Around} {outer : List Env} {s : Shared} {H : Hp} {E : XK} (hr : Room 3 (A.deeper (envOfC "_law_parts" (defScope s__law_parts) s.heap.objs.size f cdv)))
    (hF : FmP (cxOf (L2.CX P w) P w K mg base ["rooms", "near", "free", "found", "room", "part", "waiting", "other"] "_law_parts" (defScope s__law_parts) f cdv A outer s H E) K W w) : RSs (fmOf _ K W w hF) (defBody s__law_parts) (w__law_parts S T.C) := by
  unfold w__law_parts
  exact (rss_cons (rs_set 3 (re_lst rvs_nil))
  (rss_cons (rs_for (vs := [4]) (ri_sq (re_n 0)) (rg_n 4 (by decide)) (rss_one (rs_if (rw_t (rw_and (rt_cmp od_in (rr_n 4) (rr_n 2)) (rw_and1 (rt_not (rt_v (re_b cd_any (fun _ => T.n_any) (rrs_cons (rr_e (re_lcR (own := [("part", 5)]) 3 (fun _ => blkOk_by (N := ["rooms", "near", "free", "found", "room", "part", "waiting", "other"]) (sc := defScope s__law_parts) (by decide +kernel)) (rg_n 5 (by decide)) rts_nil (re_cmp od_in (rr_n 4) (rr_n 5)))) rrs_nil))))))) (rss_cons (rs_parC (is := [5, 6]) (rhs_cons (re_lst (rvs_cons (re_n 4) rvs_nil)) (rhs_cons (re_lst (rvs_cons (re_n 4) rvs_nil)) rhs_nil)) (fun i => (pgs_cons (pg_name (i := 5) (hF.nd) rfl (by first | exact Or.inl rfl | exact Or.inr rfl)) (pgs_cons (pg_name (i := 6) (hF.nd) rfl (by first | exact Or.inl rfl | exact Or.inr rfl)) pgs_nil))))
  (rss_cons (rs_while (rt_cmp od_ne (rr_n 6) (rr_e (re_lst rvs_nil))) (rss_one (rs_for (vs := [7]) (ri_sq (re_ix (rr_n 1) (rr_e (re_pop 6)))) (rg_n 7 (by decide)) (rss_one (rs_if (rw_t (rw_and (rt_cmp od_in (rr_n 7) (rr_n 2)) (rw_and1 (rt_cmp od_notIn (rr_n 7) (rr_n 5))))) (rss_cons (rs_drop (re_append 5 (rvs_cons (re_n 7) rvs_nil)))
  (rss_one (rs_drop (re_append 6 (rvs_cons (re_n 7) rvs_nil))))) rss_nil)))))
  (rss_one (rs_drop (re_append 3 (rvs_cons (re_ty cd_tuple (fun _ => T.n_tuple) (rrs_cons (rr_e (re_lc (ri_sq (re_n 0)) (own := [("other", 7)]) (fun _ => blkOk_by (N := ["rooms", "near", "free", "found", "room", "part", "waiting", "other"]) (sc := defScope s__law_parts) (by decide +kernel)) (rg_n 7 (by decide)) (rts_one (rt_cmp od_in (rr_n 7) (rr_n 5))) (re_n 7))) rrs_nil)) rvs_nil)))))) rss_nil)))
  (rss_one (rs_ret (re_n 3)))))
theorem g__law_parts (T : Txt K mg) (S : Sps)     (keep : keeps [.fz, .fz, .fz] 8 S._law_parts (w__law_parts S T.C)) : FnG P w K mg base 4 T.f__law_parts.f T.f__law_parts.fd ["rooms", "near", "free"] (spL K [.fz, .fz, .fz] S._law_parts) :=
  FnG.pu T.f__law_parts.T sc__law_parts rfl (by decide) (fun W cdv A outer s H E hF hr => d__law_parts T S   hr hF) keep
theorem sc__law_lot : FnScope ["pot", "rooms", "room"] ["pot", "rooms"] (defScope s__law_lot) := ⟨rfl, rfl, rfl, by decide +kernel, rfl, by decide +kernel, by decide +kernel⟩
theorem d__law_lot (T : Txt K mg) (S : Sps)  (kp__law_take : FnG P w K mg base 1 T.f__law_take.f T.f__law_take.fd ["pot", "upto"] (spL K [.io, .fz] S._law_take))  {W : WX} {f : Addr} {cdv : Value} {A : Around} {outer : List Env} {s : Shared} {H : Hp} {E : XK} (hr : Room 1 (A.deeper (envOfC "_law_lot" (defScope s__law_lot) s.heap.objs.size f cdv)))
    (hF : FmP (cxOf (L2.CX P w) P w K mg base ["pot", "rooms", "room"] "_law_lot" (defScope s__law_lot) f cdv A outer s H E) K W w) : RSs (fmOf _ K W w hF) (defBody s__law_lot) (w__law_lot S T.C) := by
  unfold w__law_lot
  exact (rss_one (rs_ret (re_ty cd_tuple (fun _ => T.n_tuple) (rrs_cons (rr_e (re_lc (ri_sq (re_n 1)) (own := [("room", 2)]) (fun _ => blkOk_by (N := ["pot", "rooms", "room"]) (sc := defScope s__law_lot) (by decide +kernel)) (rg_n 2 (by decide)) (rts_one (rt_cmp od_eq (rr_e (re_call (fun _ => ⟨kp__law_take, hr.mono (by decide)⟩) (fun _ => T.f__law_take.m) T.f__law_take.k T.b__law_take_2 (ras_s 0 (ras_v re_int ras_nil)))) (rr_e re_int))) (re_n 2))) rrs_nil))))
theorem g__law_lot (T : Txt K mg) (S : Sps)   (kp__law_take : FnG P w K mg base 1 T.f__law_take.f T.f__law_take.fd ["pot", "upto"] (spL K [.io, .fz] S._law_take))  (keep : keeps [.io, .fz] 3 S._law_lot (w__law_lot S T.C)) : FnG P w K mg base 2 T.f__law_lot.f T.f__law_lot.fd ["pot", "rooms"] (spL K [.io, .fz] S._law_lot) :=
  FnG.pu T.f__law_lot.T sc__law_lot rfl (by decide) (fun W cdv A outer s H E hF hr => d__law_lot T S kp__law_take  hr hF) keep
theorem sc__law_bent : FnScope ["pot", "value", "at", "some"] ["pot", "value"] (defScope s__law_bent) := ⟨rfl, rfl, rfl, by decide +kernel, rfl, by decide +kernel, by decide +kernel⟩
theorem d__law_bent (T : Txt K mg) (S : Sps) {j : Nat} (kp__law_take : FnG P w K mg base 1 T.f__law_take.f T.f__law_take.fd ["pot", "upto"] (spL K [.io, .fz] S._law_take)) (kp__law_bent : FnG P w K mg base (2 + j) T.f__law_bent.f T.f__law_bent.fd ["pot", "value"] (spL K [.io, .fz] S._law_bent)) (kp__law_of : FnG P w K mg base 2 T.f__law_of.f T.f__law_of.fd ["pot", "some"] (spL K [.io, .fz] S._law_of))  {W : WX} {f : Addr} {cdv : Value} {A : Around} {outer : List Env} {s : Shared} {H : Hp} {E : XK} (hr : Room (2 + j) (A.deeper (envOfC "_law_bent" (defScope s__law_bent) s.heap.objs.size f cdv)))
    (hF : FmP (cxOf (L2.CX P w) P w K mg base ["pot", "value", "at", "some"] "_law_bent" (defScope s__law_bent) f cdv A outer s H E) K W w) : RSs (fmOf _ K W w hF) (defBody s__law_bent) (w__law_bent S T.C) := by
  unfold w__law_bent
  exact (rss_cons (rs_if (rw_t (rw_and (rt_v (re_isTy "tuple" (rr_n 1) (fun _ => T.n_isinstance) (fun _ => T.n_tuple))) (rw_and (rt_cmp od_neE (rr_n 1) (rr_e (re_tup rvs_nil))) (rw_and1 (rt_cmp od_gt (rr_e (re_call (fun _ => ⟨kp__law_take, hr.mono (by omega)⟩) (fun _ => T.f__law_take.m) T.f__law_take.k T.b__law_take_2 (ras_s 0 (ras_v re_int ras_nil)))) (rr_e re_int)))))) (rss_cons (rs_set 2 (re_call (fun _ => ⟨kp__law_take, hr.mono (by omega)⟩) (fun _ => T.f__law_take.m) T.f__law_take.k T.b__law_take_2 (ras_s 0 (ras_v (re_b cd_len (fun _ => T.n_len) (rrs_cons (rr_n 1) rrs_nil)) ras_nil))))
  (rss_one (rs_ret (re_op od_add (rr_e (re_op od_add (rr_e (re_sl (rr_n 1) ro_n (ro_s (rr_n 2)))) (rr_e (re_tup (rvs_cons (re_call (fun _ => ⟨kp__law_bent, hr.mono (by omega)⟩) (fun _ => T.f__law_bent.m) T.f__law_bent.k T.b__law_bent_2 (ras_s 0 (ras_v (re_ix (rr_n 1) (rr_n 2)) ras_nil))) rvs_nil))))) (rr_e (re_sl (rr_n 1) (ro_s (rr_e (re_op od_add (rr_n 2) (rr_e re_int)))) ro_n)))))) rss_nil)
  (rss_cons (rs_if (rt_v (re_isTy "tuple" (rr_n 1) (fun _ => T.n_isinstance) (fun _ => T.n_tuple))) (rss_one (rs_ret (re_call (fun _ => ⟨kp__law_of, hr.mono (by omega)⟩) (fun _ => T.f__law_of.m) T.f__law_of.k T.b__law_of_2 (ras_s 0 (ras_v (re_lst (rvs_cons (re_ty cd_list (fun _ => T.n_list) (rrs_cons (rr_n 1) rrs_nil)) (rvs_cons (re_sl (rr_n 1) (ro_s (rr_e re_int)) ro_n) (rvs_cons (re_op od_add (rr_n 1) (rr_e (re_sl (rr_n 1) (ro_s (rr_e (re_un ud_neg (rr_e re_int)))) ro_n))) (rvs_cons (re_back (rr_n 1)) (rvs_cons (re_tup rvs_nil) (rvs_cons re_non (rvs_cons (re_op od_add (rr_n 1) (rr_e (re_tup (rvs_cons re_str rvs_nil)))) rvs_nil)))))))) ras_nil))))) rss_nil)
  (rss_cons (rs_if (rt_v (re_isTy "int" (rr_n 1) (fun _ => T.n_isinstance) (fun _ => T.n_int))) (rss_one (rs_ret (re_call (fun _ => ⟨kp__law_of, hr.mono (by omega)⟩) (fun _ => T.f__law_of.m) T.f__law_of.k T.b__law_of_2 (ras_s 0 (ras_v (re_lst (rvs_cons (re_ty cd_int (fun _ => T.n_int) (rrs_cons (rr_e (re_op od_add (rr_n 1) (rr_e re_int))) rrs_nil)) (rvs_cons (re_ty cd_int (fun _ => T.n_int) (rrs_cons (rr_e (re_op od_sub (rr_n 1) (rr_e re_int))) rrs_nil)) (rvs_cons (re_cmp od_eq (rr_n 1) (rr_e re_int)) (rvs_cons (re_ty cd_str (fun _ => T.n_str) (rrs_cons (rr_n 1) rrs_nil)) (rvs_cons re_non (rvs_cons re_int (rvs_cons (re_lst (rvs_cons (re_n 1) rvs_nil)) rvs_nil)))))))) ras_nil))))) rss_nil)
  (rss_cons (rs_set 3 (re_lst (rvs_cons re_non (rvs_cons re_int (rvs_cons re_str (rvs_cons re_str (rvs_cons re_str (rvs_cons re_str (rvs_cons re_str (rvs_cons re_str (rvs_cons re_str (rvs_cons re_str (rvs_cons re_str (rvs_cons re_str (rvs_cons re_str rvs_nil)))))))))))))))
  (rss_one (rs_ret (re_call (fun _ => ⟨kp__law_of, hr.mono (by omega)⟩) (fun _ => T.f__law_of.m) T.f__law_of.k T.b__law_of_2 (ras_s 0 (ras_v (re_op od_add (rr_n 3) (rr_e (re_lst (rvs_cons (re_lst (rvs_cons (re_n 1) rvs_nil)) (rvs_cons re_dic0 (rvs_cons (re_tup (rvs_cons (re_n 1) rvs_nil)) (rvs_cons (re_tup (rvs_cons (re_lst (rvs_cons (re_n 1) rvs_nil)) rvs_nil)) rvs_nil))))))) ras_nil)))))))))
theorem g__law_bent (T : Txt K mg) (S : Sps) {j : Nat} {sp : DSp} (kp__law_take : FnG P w K mg base 1 T.f__law_take.f T.f__law_take.fd ["pot", "upto"] (spL K [.io, .fz] S._law_take)) (kp__law_bent : FnG P w K mg base (2 + j) T.f__law_bent.f T.f__law_bent.fd ["pot", "value"] (spL K [.io, .fz] S._law_bent)) (kp__law_of : FnG P w K mg base 2 T.f__law_of.f T.f__law_of.fd ["pot", "some"] (spL K [.io, .fz] S._law_of))  (keep : keeps [.io, .fz] 4 sp (w__law_bent S T.C)) : FnG P w K mg base (2 + j + 1) T.f__law_bent.f T.f__law_bent.fd ["pot", "value"] (spL K [.io, .fz] sp) :=
  FnG.pu T.f__law_bent.T sc__law_bent rfl (by decide) (fun W cdv A outer s H E hF hr => d__law_bent T S kp__law_take kp__law_bent kp__law_of  hr hF) keep
theorem sc__law_far : FnScope ["near", "one", "far", "last", "here", "other"] ["near", "one"] (defScope s__law_far) := ⟨rfl, rfl, rfl, by decide +kernel, rfl, by decide +kernel, by decide +kernel⟩
theorem d__law_far (T : Txt K mg) (S : Sps)    {W : WX} {f : Addr} {cdv : Value} {A : Around} {outer : List Env} {s : Shared} {H : Hp} {E : XK} (hr : Room 3 (A.deeper (envOfC "_law_far" (defScope s__law_far) s.heap.objs.size f cdv)))
    (hF : FmP (cxOf (L2.CX P w) P w K mg base ["near", "one", "far", "last", "here", "other"] "_law_far" (defScope s__law_far) f cdv A outer s H E) K W w) : RSs (fmOf _ K W w hF) (defBody s__law_far) (w__law_far S T.C) := by
  unfold w__law_far
  exact (rss_cons (rs_par (rhs_cons (re_dic (rps_cons (re_n 1) re_int rps_nil)) (rhs_cons (re_lst (rvs_cons (re_n 1) rvs_nil)) rhs_nil)))
  (rss_cons (rs_while (rt_cmp od_ne (rr_n 3) (rr_e (re_lst rvs_nil))) (rss_cons (rs_set 4 (re_popAt 3 (rvs_cons re_int rvs_nil)))
  (rss_one (rs_for (vs := [5]) (ri_sq (re_ix (rr_n 0) (rr_n 4))) (rg_n 5 (by decide)) (rss_one (rs_if (rt_cmp od_notIn (rr_n 5) (rr_n 2)) (rss_cons (rs_asg (vs := []) (re_op od_add (rr_e (re_ix (rr_n 2) (rr_n 4))) (rr_e re_int)) (rg_ix 2 (rr_n 5)))
  (rss_one (rs_drop (re_append 3 (rvs_cons (re_n 5) rvs_nil))))) rss_nil))))))
  (rss_one (rs_ret (re_n 2)))))
theorem g__law_far (T : Txt K mg) (S : Sps)     (keep : keeps [.fz, .fz] 6 S._law_far (w__law_far S T.C)) : FnG P w K mg base 4 T.f__law_far.f T.f__law_far.fd ["near", "one"] (spL K [.fz, .fz] S._law_far) :=
  FnG.pu T.f__law_far.T sc__law_far rfl (by decide) (fun W cdv A outer s H E hF hr => d__law_far T S   hr hF) keep
theorem sc__law_is_way : FnScope ["near", "one", "other", "value", "far", "room", "here", "there"] ["near", "one", "other", "value"] (defScope s__law_is_way) := ⟨rfl, rfl, rfl, by decide +kernel, rfl, by decide +kernel, by decide +kernel⟩
theorem d__law_is_way (T : Txt K mg) (S : Sps)  (kp__law_far : FnG P w K mg base 4 T.f__law_far.f T.f__law_far.fd ["near", "one"] (spL K [.fz, .fz] S._law_far))  {W : WX} {f : Addr} {cdv : Value} {A : Around} {outer : List Env} {s : Shared} {H : Hp} {E : XK} (hr : Room 4 (A.deeper (envOfC "_law_is_way" (defScope s__law_is_way) s.heap.objs.size f cdv)))
    (hF : FmP (cxOf (L2.CX P w) P w K mg base ["near", "one", "other", "value", "far", "room", "here", "there"] "_law_is_way" (defScope s__law_is_way) f cdv A outer s H E) K W w) : RSs (fmOf _ K W w hF) (defBody s__law_is_way) (w__law_is_way S T.C) := by
  unfold w__law_is_way
  exact (rss_cons (rs_set 4 (re_call (fun _ => ⟨kp__law_far, hr.mono (by decide)⟩) (fun _ => T.f__law_far.m) T.f__law_far.k T.b__law_far_2 (ras_v (re_n 0) (ras_v (re_n 1) ras_nil))))
  (rss_cons (rs_if (rw_t (rw_or (rt_cmp od_notIn (rr_n 2) (rr_n 4)) (rw_or1 (rt_cmp od_is (rr_n 3) (rr_e re_non))))) (rss_one (rs_ret (re_and (re_cmp od_notIn (rr_n 2) (rr_n 4)) (re_one (re_cmp od_is (rr_n 3) (rr_e re_non)))))) rss_nil)
  (rss_cons (rs_if (rw_t (rw_or (rt_not (rt_v (re_isTy "tuple" (rr_n 3) (fun _ => T.n_isinstance) (fun _ => T.n_tuple)))) (rw_or1 (rt_not (rt_v (re_b cd_all (fun _ => T.n_all) (rrs_cons (rr_e (re_lc (ri_sq (re_n 3)) (own := [("room", 5)]) (fun _ => blkOk_by (N := ["near", "one", "other", "value", "far", "room", "here", "there"]) (sc := defScope s__law_is_way) (by decide +kernel)) (rg_n 5 (by decide)) rts_nil (re_and (re_isTy "str" (rr_n 5) (fun _ => T.n_isinstance) (fun _ => T.n_str)) (re_one (re_cmp od_in (rr_n 5) (rr_n 0)))))) rrs_nil))))))) (rss_one (rs_ret re_bl)) rss_nil)
  (rss_cons (rs_if (rw_t (rw_or (rt_cmp od_ne (rr_e (re_b cd_len (fun _ => T.n_len) (rrs_cons (rr_n 3) rrs_nil))) (rr_e (re_op od_add (rr_e (re_ix (rr_n 4) (rr_n 2))) (rr_e re_int)))) (rw_or (rt_cmp od_ne (rr_e (re_ix (rr_n 3) (rr_e re_int))) (rr_n 1)) (rw_or1 (rt_cmp od_ne (rr_e (re_ix (rr_n 3) (rr_e (re_un ud_neg (rr_e re_int))))) (rr_n 2)))))) (rss_one (rs_ret re_bl)) rss_nil)
  (rss_one (rs_ret (re_b cd_all (fun _ => T.n_all) (rrs_cons (rr_e (re_lc (ri_zp (re_n 3) (re_sl (rr_n 3) (ro_s (rr_e re_int)) ro_n) (fun _ => T.n_zip)) (own := [("here", 6), ("there", 7)]) (fun _ => blkOk_by (N := ["near", "one", "other", "value", "far", "room", "here", "there"]) (sc := defScope s__law_is_way) (by decide +kernel)) (rg_tn (rgs_cons (rg_n 6 (by decide)) (rgs_cons (rg_n 7 (by decide)) rgs_nil))) rts_nil (re_cmp od_in (rr_n 7) (rr_e (re_ix (rr_n 0) (rr_n 6)))))) rrs_nil))))))))
theorem g__law_is_way (T : Txt K mg) (S : Sps)   (kp__law_far : FnG P w K mg base 4 T.f__law_far.f T.f__law_far.fd ["near", "one"] (spL K [.fz, .fz] S._law_far))  (keep : keeps [.fz, .fz, .fz, .fz] 8 S._law_is_way (w__law_is_way S T.C)) : FnG P w K mg base 5 T.f__law_is_way.f T.f__law_is_way.fd ["near", "one", "other", "value"] (spL K [.fz, .fz, .fz, .fz] S._law_is_way) :=
  FnG.pu T.f__law_is_way.T sc__law_is_way rfl (by decide) (fun W cdv A outer s H E hF hr => d__law_is_way T S kp__law_far  hr hF) keep
theorem sc__law_right : FnScope ["pot", "rooms", "doors", "house", "near", "lap", "lot", "free", "due", "value", "is_due", "one", "other", "told", "back", "values", "step", "room"] ["pot"] (defScope s__law_right) := ⟨rfl, rfl, rfl, by decide +kernel, rfl, by decide +kernel, by decide +kernel⟩
theorem d__law_right (T : Txt K mg) (S : Sps)  (kp__law_house : FnG P w K mg base 6 T.f__law_house.f T.f__law_house.fd ["pot", "upto"] (spL K [.io, .fz] S._law_house)) (kp__law_text : FnG P w K mg base 4 T.f__law_text.f T.f__law_text.fd ["rooms", "doors"] (spL K [.fz, .fz] S._law_text)) (kp__law_near : FnG P w K mg base 1 T.f__law_near.f T.f__law_near.fd ["rooms", "doors"] (spL K [.fz, .fz] S._law_near)) (kp__law_lot : FnG P w K mg base 2 T.f__law_lot.f T.f__law_lot.fd ["pot", "rooms"] (spL K [.io, .fz] S._law_lot)) (kp_parts : FnG P w K mg base 9 T.f_parts.f T.f_parts.fd ["house", "lot"] (spL K [.fz, .fz] S.parts)) (kp__law_parts : FnG P w K mg base 4 T.f__law_parts.f T.f__law_parts.fd ["rooms", "near", "free"] (spL K [.fz, .fz, .fz] S._law_parts)) (kp_is_joined : FnG P w K mg base 9 T.f_is_joined.f T.f_is_joined.fd ["house", "lot"] (spL K [.fz, .fz] S.is_joined)) (kp_beside : FnG P w K mg base 9 T.f_beside.f T.f_beside.fd ["house", "lot"] (spL K [.fz, .fz] S.beside)) (kp__law_bent : FnG P w K mg base 12 T.f__law_bent.f T.f__law_bent.fd ["pot", "value"] (spL K [.io, .fz] S._law_bent)) (kp_is_lot : FnG P w K mg base 8 T.f_is_lot.f T.f_is_lot.fd ["house", "value"] (spL K [.fz, .fz] S.is_lot)) (kp__law_of : FnG P w K mg base 2 T.f__law_of.f T.f__law_of.fd ["pot", "some"] (spL K [.io, .fz] S._law_of)) (kp_way : FnG P w K mg base 8 T.f_way.f T.f_way.fd ["house", "one", "other"] (spL K [.fz, .fz, .fz] S.way)) (kp__law_is_way : FnG P w K mg base 5 T.f__law_is_way.f T.f__law_is_way.fd ["near", "one", "other", "value"] (spL K [.fz, .fz, .fz, .fz] S._law_is_way)) (kp__law_some : FnG P w K mg base 4 T.f__law_some.f T.f__law_some.fd ["pot", "pool", "many"] (spL K [.io, .fz, .fz] S._law_some)) (kp__law_take : FnG P w K mg base 1 T.f__law_take.f T.f__law_take.fd ["pot", "upto"] (spL K [.io, .fz] S._law_take)) (kp_shows_way : FnG P w K mg base 9 T.f_shows_way.f T.f_shows_way.fd ["house", "one", "other", "value"] (spL K [.fz, .fz, .fz, .fz] S.shows_way)) (hH : HouseOk K mg S.House) {W : WX} {f : Addr} {cdv : Value} {A : Around} {outer : List Env} {s : Shared} {H : Hp} {E : XK} (hr : Room 12 (A.deeper (envOfC "_law_right" (defScope s__law_right) s.heap.objs.size f cdv)))
    (hF : FmP (cxOf (L2.CX P w) P w K mg base ["pot", "rooms", "doors", "house", "near", "lap", "lot", "free", "due", "value", "is_due", "one", "other", "told", "back", "values", "step", "room"] "_law_right" (defScope s__law_right) f cdv A outer s H E) K W w) : RSs (fmOf _ K W w hF) (defBody s__law_right) (w__law_right S T.C) := by
  unfold w__law_right
  exact (rss_cons (rs_asg (vs := [1, 2]) (re_call (fun _ => ⟨kp__law_house, hr.mono (by decide)⟩) (fun _ => T.f__law_house.m) T.f__law_house.k T.b__law_house_2 (ras_s 0 (ras_v re_int ras_nil))) (rg_tn (rgs_cons (rg_n 1 (by decide)) (rgs_cons (rg_n 2 (by decide)) rgs_nil))))
  (rss_cons (rs_parC (is := [3, 4]) (rhs_cons (hH _ rfl (fun _ => rfl) (fun _ => hr.mono (by decide)) (re_call (fun _ => ⟨kp__law_text, hr.mono (by decide)⟩) (fun _ => T.f__law_text.m) T.f__law_text.k T.b__law_text_2 (ras_v (re_n 1) (ras_v (re_n 2) ras_nil))) (by intro _; rfl) (by intro _; rfl) (by intro _; rfl)) (rhs_cons (re_call (fun _ => ⟨kp__law_near, hr.mono (by decide)⟩) (fun _ => T.f__law_near.m) T.f__law_near.k T.b__law_near_2 (ras_v (re_n 1) (ras_v (re_n 2) ras_nil))) rhs_nil)) (fun i => (pgs_cons (pg_name (i := 3) (hF.nd) rfl (by first | exact Or.inl rfl | exact Or.inr rfl)) (pgs_cons (pg_name (i := 4) (hF.nd) rfl (by first | exact Or.inl rfl | exact Or.inr rfl)) pgs_nil))))
  (rss_cons (rs_for (vs := [5]) (ri_rng1 (rr_e re_int) (fun _ => T.n_range)) (rg_n 5 (by decide)) (rss_cons (rs_set 6 (re_call (fun _ => ⟨kp__law_lot, hr.mono (by decide)⟩) (fun _ => T.f__law_lot.m) T.f__law_lot.k T.b__law_lot_2 (ras_s 0 (ras_v (re_n 1) ras_nil))))
  (rss_cons (rs_lc 7 (ri_sq (re_n 1)) (own := [("room", 17)]) (fun _ => blkOk_by (N := ["pot", "rooms", "doors", "house", "near", "lap", "lot", "free", "due", "value", "is_due", "one", "other", "told", "back", "values", "step", "room"]) (sc := defScope s__law_right) (by decide +kernel)) (rg_n 17 (by decide)) (rts_one (rt_cmp od_notIn (rr_n 17) (rr_n 6))) (re_n 17) (fun _ => sw_true rfl rfl rfl (by decide +kernel)))
  (rss_cons (rs_if (rt_cmp od_ne (rr_e (re_b cd_repr (fun _ => T.n_repr) (rrs_cons (rr_e (re_callK0 (fun _ => ⟨kp_parts, hr.mono (by decide)⟩) (fun _ => T.f_parts.m) T.f_parts.k T.b_parts_0_k2 (rks_v (re_n 3) (rks_v (re_n 6) rks_nil)))) rrs_nil))) (rr_e (re_b cd_repr (fun _ => T.n_repr) (rrs_cons (rr_e (re_ty cd_tuple (fun _ => T.n_tuple) (rrs_cons (rr_e (re_call (fun _ => ⟨kp__law_parts, hr.mono (by decide)⟩) (fun _ => T.f__law_parts.m) T.f__law_parts.k T.b__law_parts_3 (ras_v (re_n 1) (ras_v (re_n 4) (ras_v (re_n 7) ras_nil))))) rrs_nil))) rrs_nil)))) (rss_one (rs_ret re_bl)) rss_nil)
  (rss_cons (rs_if (rt_cmp od_ne (rr_e (re_b cd_repr (fun _ => T.n_repr) (rrs_cons (rr_e (re_callK0 (fun _ => ⟨kp_is_joined, hr.mono (by decide)⟩) (fun _ => T.f_is_joined.m) T.f_is_joined.k T.b_is_joined_0_k2 (rks_v (re_n 3) (rks_v (re_n 6) rks_nil)))) rrs_nil))) (rr_e (re_b cd_repr (fun _ => T.n_repr) (rrs_cons (rr_e (re_cmp od_eq (rr_e (re_b cd_len (fun _ => T.n_len) (rrs_cons (rr_e (re_call (fun _ => ⟨kp__law_parts, hr.mono (by decide)⟩) (fun _ => T.f__law_parts.m) T.f__law_parts.k T.b__law_parts_3 (ras_v (re_n 1) (ras_v (re_n 4) (ras_v (re_n 6) ras_nil))))) rrs_nil))) (rr_e re_int))) rrs_nil)))) (rss_one (rs_ret re_bl)) rss_nil)
  (rss_cons (rs_set 8 (re_ty cd_tuple (fun _ => T.n_tuple) (rrs_cons (rr_e (re_lc (ri_sq (re_n 7)) (own := [("room", 17)]) (fun _ => blkOk_by (N := ["pot", "rooms", "doors", "house", "near", "lap", "lot", "free", "due", "value", "is_due", "one", "other", "told", "back", "values", "step", "room"]) (sc := defScope s__law_right) (by decide +kernel)) (rg_n 17 (by decide)) (rts_one (rt_v (re_b cd_any (fun _ => T.n_any) (rrs_cons (rr_e (re_lc (ri_sq (re_ix (rr_n 4) (rr_n 17))) (own := [("other", 12)]) (fun _ => blkOk_by (by rfl)) (rg_n 12 (by decide)) rts_nil (re_cmp od_in (rr_n 12) (rr_n 6)))) rrs_nil)))) (re_n 17))) rrs_nil)))
  (rss_cons (rs_if (rt_cmp od_ne (rr_e (re_b cd_repr (fun _ => T.n_repr) (rrs_cons (rr_e (re_callK0 (fun _ => ⟨kp_beside, hr.mono (by decide)⟩) (fun _ => T.f_beside.m) T.f_beside.k T.b_beside_0_k2 (rks_v (re_n 3) (rks_v (re_n 6) rks_nil)))) rrs_nil))) (rr_e (re_b cd_repr (fun _ => T.n_repr) (rrs_cons (rr_n 8) rrs_nil)))) (rss_one (rs_ret re_bl)) rss_nil)
  (rss_one (rs_for (vs := [9]) (ri_sq (re_lst (rvs_cons (re_n 6) (rvs_cons (re_back (rr_n 6)) (rvs_cons (re_ty cd_list (fun _ => T.n_list) (rrs_cons (rr_n 6) rrs_nil)) (rvs_cons (re_op od_add (rr_n 6) (rr_e (re_sl (rr_n 6) ro_n (ro_s (rr_e re_int))))) (rvs_cons re_non (rvs_cons (re_op od_add (rr_n 6) (rr_e (re_tup (rvs_cons re_str rvs_nil)))) (rvs_cons (re_call (fun _ => ⟨kp__law_bent, hr.mono (by decide)⟩) (fun _ => T.f__law_bent.m) T.f__law_bent.k T.b__law_bent_2 (ras_s 0 (ras_v (re_n 6) ras_nil))) rvs_nil))))))))) (rg_n 9 (by decide)) (rss_cons (rs_set 10 (re_and (re_isTy "tuple" (rr_n 9) (fun _ => T.n_isinstance) (fun _ => T.n_tuple)) (re_one (re_b cd_all (fun _ => T.n_all) (rrs_cons (rr_e (re_lc (ri_sq (re_n 9)) (own := [("room", 17)]) (fun _ => blkOk_by (N := ["pot", "rooms", "doors", "house", "near", "lap", "lot", "free", "due", "value", "is_due", "one", "other", "told", "back", "values", "step", "room"]) (sc := defScope s__law_right) (by decide +kernel)) (rg_n 17 (by decide)) rts_nil (re_isTy "str" (rr_n 17) (fun _ => T.n_isinstance) (fun _ => T.n_str)))) rrs_nil)))))
  (rss_cons (rs_set 10 (re_and (re_n 10) (re_one (re_cmp od_eq (rr_n 9) (rr_e (re_ty cd_tuple (fun _ => T.n_tuple) (rrs_cons (rr_e (re_lc (ri_sq (re_n 1)) (own := [("room", 17)]) (fun _ => blkOk_by (N := ["pot", "rooms", "doors", "house", "near", "lap", "lot", "free", "due", "value", "is_due", "one", "other", "told", "back", "values", "step", "room"]) (sc := defScope s__law_right) (by decide +kernel)) (rg_n 17 (by decide)) (rts_one (rt_cmp od_in (rr_n 17) (rr_n 9))) (re_n 17))) rrs_nil)))))))
  (rss_one (rs_if (rt_cmp od_ne (rr_e (re_b cd_repr (fun _ => T.n_repr) (rrs_cons (rr_e (re_callK0 (fun _ => ⟨kp_is_lot, hr.mono (by decide)⟩) (fun _ => T.f_is_lot.m) T.f_is_lot.k T.b_is_lot_0_k2 (rks_v (re_n 3) (rks_v (re_n 9) rks_nil)))) rrs_nil))) (rr_e (re_b cd_repr (fun _ => T.n_repr) (rrs_cons (rr_n 10) rrs_nil)))) (rss_one (rs_ret re_bl)) rss_nil)))))))))))))
  (rss_cons (rs_for (vs := [5]) (ri_rng1 (rr_e re_int) (fun _ => T.n_range)) (rg_n 5 (by decide)) (rss_cons (rs_par (rhs_cons (re_call (fun _ => ⟨kp__law_of, hr.mono (by decide)⟩) (fun _ => T.f__law_of.m) T.f__law_of.k T.b__law_of_2 (ras_s 0 (ras_v (re_n 1) ras_nil))) (rhs_cons (re_call (fun _ => ⟨kp__law_of, hr.mono (by decide)⟩) (fun _ => T.f__law_of.m) T.f__law_of.k T.b__law_of_2 (ras_s 0 (ras_v (re_n 1) ras_nil))) rhs_nil)))
  (rss_cons (rs_parC (is := [13, 14]) (rhs_cons (re_callK0 (fun _ => ⟨kp_way, hr.mono (by decide)⟩) (fun _ => T.f_way.m) T.f_way.k T.b_way_0_k3 (rks_v (re_n 3) (rks_v (re_n 11) (rks_v (re_n 12) rks_nil)))) (rhs_cons (re_call (fun _ => ⟨kp_way, hr.mono (by decide)⟩) (fun _ => T.f_way.m) T.f_way.k T.b_way_3 (ras_v (re_n 3) (ras_v (re_n 12) (ras_v (re_n 11) ras_nil)))) rhs_nil)) (fun i => (pgs_cons (pg_name (i := 13) (hF.nd) rfl (by first | exact Or.inl rfl | exact Or.inr rfl)) (pgs_cons (pg_name (i := 14) (hF.nd) rfl (by first | exact Or.inl rfl | exact Or.inr rfl)) pgs_nil))))
  (rss_cons (rs_if (rw_t (rw_or (rt_not (rt_v (re_call (fun _ => ⟨kp__law_is_way, hr.mono (by decide)⟩) (fun _ => T.f__law_is_way.m) T.f__law_is_way.k T.b__law_is_way_4 (ras_v (re_n 4) (ras_v (re_n 11) (ras_v (re_n 12) (ras_v (re_n 13) ras_nil))))))) (rw_or1 (rt_cmp od_ne (rr_e (re_cmp od_is (rr_n 13) (rr_e re_non))) (rr_e (re_cmp od_is (rr_n 14) (rr_e re_non))))))) (rss_one (rs_ret re_bl)) rss_nil)
  (rss_cons (rs_if (rw_t (rw_and (rt_cmp od_isNot (rr_n 13) (rr_e re_non)) (rw_and1 (rt_cmp od_ne (rr_e (re_b cd_len (fun _ => T.n_len) (rrs_cons (rr_n 14) rrs_nil))) (rr_e (re_b cd_len (fun _ => T.n_len) (rrs_cons (rr_n 13) rrs_nil))))))) (rss_one (rs_ret re_bl)) rss_nil)
  (rss_cons (rs_set 15 (re_lst (rvs_cons (re_n 13) (rvs_cons (re_n 14) (rvs_cons re_non (rvs_cons (re_tup rvs_nil) (rvs_cons (re_tup (rvs_cons (re_n 11) (rvs_cons (re_n 12) rvs_nil))) (rvs_cons (re_tup (rvs_cons (re_n 11) rvs_nil)) (rvs_cons (re_if (rt_cmp od_isNot (rr_n 13) (rr_e re_non)) (re_ty cd_list (fun _ => T.n_list) (rrs_cons (rr_n 13) rrs_nil)) (re_lst (rvs_cons (re_n 11) rvs_nil))) rvs_nil)))))))))
  (rss_cons (rs_for (vs := [16]) (ri_rng1 (rr_e re_int) (fun _ => T.n_range)) (rg_n 16 (by decide)) (rss_one (rs_drop (re_append 15 (rvs_cons (re_ty cd_tuple (fun _ => T.n_tuple) (rrs_cons (rr_e (re_op od_add (rr_e (re_op od_add (rr_e (re_lst (rvs_cons (re_n 11) rvs_nil))) (rr_e (re_call (fun _ => ⟨kp__law_some, hr.mono (by decide)⟩) (fun _ => T.f__law_some.m) T.f__law_some.k T.b__law_some_3 (ras_s 0 (ras_v (re_n 1) (ras_v (re_call (fun _ => ⟨kp__law_take, hr.mono (by decide)⟩) (fun _ => T.f__law_take.m) T.f__law_take.k T.b__law_take_2 (ras_s 0 (ras_v (re_b cd_len (fun _ => T.n_len) (rrs_cons (rr_n 1) rrs_nil)) ras_nil))) ras_nil))))))) (rr_e (re_lst (rvs_cons (re_n 12) rvs_nil))))) rrs_nil)) rvs_nil)))))
  (rss_one (rs_for (vs := [9]) (ri_sq (re_op od_add (rr_n 15) (rr_e (re_lc (ri_rng1 (rr_e re_int) (fun _ => T.n_range)) (own := [("step", 16)]) (fun _ => blkOk_by (N := ["pot", "rooms", "doors", "house", "near", "lap", "lot", "free", "due", "value", "is_due", "one", "other", "told", "back", "values", "step", "room"]) (sc := defScope s__law_right) (by decide +kernel)) (rg_n 16 (by decide)) rts_nil (re_call (fun _ => ⟨kp__law_bent, hr.mono (by decide)⟩) (fun _ => T.f__law_bent.m) T.f__law_bent.k T.b__law_bent_2 (ras_s 0 (ras_v (re_n 13) ras_nil))))))) (rg_n 9 (by decide)) (rss_cons (rs_set 8 (re_call (fun _ => ⟨kp__law_is_way, hr.mono (by decide)⟩) (fun _ => T.f__law_is_way.m) T.f__law_is_way.k T.b__law_is_way_4 (ras_v (re_n 4) (ras_v (re_n 11) (ras_v (re_n 12) (ras_v (re_n 9) ras_nil))))))
  (rss_one (rs_if (rt_cmp od_ne (rr_e (re_b cd_repr (fun _ => T.n_repr) (rrs_cons (rr_e (re_callK0 (fun _ => ⟨kp_shows_way, hr.mono (by decide)⟩) (fun _ => T.f_shows_way.m) T.f_shows_way.k T.b_shows_way_0_k4 (rks_v (re_n 3) (rks_v (re_n 11) (rks_v (re_n 12) (rks_v (re_n 9) rks_nil)))))) rrs_nil))) (rr_e (re_b cd_repr (fun _ => T.n_repr) (rrs_cons (rr_n 8) rrs_nil)))) (rss_one (rs_ret re_bl)) rss_nil))))))))))))
  (rss_one (rs_ret re_bl))))))
theorem g__law_right (T : Txt K mg) (S : Sps)   (kp__law_house : FnG P w K mg base 6 T.f__law_house.f T.f__law_house.fd ["pot", "upto"] (spL K [.io, .fz] S._law_house)) (kp__law_text : FnG P w K mg base 4 T.f__law_text.f T.f__law_text.fd ["rooms", "doors"] (spL K [.fz, .fz] S._law_text)) (kp__law_near : FnG P w K mg base 1 T.f__law_near.f T.f__law_near.fd ["rooms", "doors"] (spL K [.fz, .fz] S._law_near)) (kp__law_lot : FnG P w K mg base 2 T.f__law_lot.f T.f__law_lot.fd ["pot", "rooms"] (spL K [.io, .fz] S._law_lot)) (kp_parts : FnG P w K mg base 9 T.f_parts.f T.f_parts.fd ["house", "lot"] (spL K [.fz, .fz] S.parts)) (kp__law_parts : FnG P w K mg base 4 T.f__law_parts.f T.f__law_parts.fd ["rooms", "near", "free"] (spL K [.fz, .fz, .fz] S._law_parts)) (kp_is_joined : FnG P w K mg base 9 T.f_is_joined.f T.f_is_joined.fd ["house", "lot"] (spL K [.fz, .fz] S.is_joined)) (kp_beside : FnG P w K mg base 9 T.f_beside.f T.f_beside.fd ["house", "lot"] (spL K [.fz, .fz] S.beside)) (kp__law_bent : FnG P w K mg base 12 T.f__law_bent.f T.f__law_bent.fd ["pot", "value"] (spL K [.io, .fz] S._law_bent)) (kp_is_lot : FnG P w K mg base 8 T.f_is_lot.f T.f_is_lot.fd ["house", "value"] (spL K [.fz, .fz] S.is_lot)) (kp__law_of : FnG P w K mg base 2 T.f__law_of.f T.f__law_of.fd ["pot", "some"] (spL K [.io, .fz] S._law_of)) (kp_way : FnG P w K mg base 8 T.f_way.f T.f_way.fd ["house", "one", "other"] (spL K [.fz, .fz, .fz] S.way)) (kp__law_is_way : FnG P w K mg base 5 T.f__law_is_way.f T.f__law_is_way.fd ["near", "one", "other", "value"] (spL K [.fz, .fz, .fz, .fz] S._law_is_way)) (kp__law_some : FnG P w K mg base 4 T.f__law_some.f T.f__law_some.fd ["pot", "pool", "many"] (spL K [.io, .fz, .fz] S._law_some)) (kp__law_take : FnG P w K mg base 1 T.f__law_take.f T.f__law_take.fd ["pot", "upto"] (spL K [.io, .fz] S._law_take)) (kp_shows_way : FnG P w K mg base 9 T.f_shows_way.f T.f_shows_way.fd ["house", "one", "other", "value"] (spL K [.fz, .fz, .fz, .fz] S.shows_way)) (hH : HouseOk K mg S.House) (keep : keeps [.io] 18 S._law_right (w__law_right S T.C)) : FnG P w K mg base 13 T.f__law_right.f T.f__law_right.fd ["pot"] (spL K [.io] S._law_right) :=
  FnG.pu T.f__law_right.T sc__law_right rfl (by decide) (fun W cdv A outer s H E hF hr => d__law_right T S kp__law_house kp__law_text kp__law_near kp__law_lot kp_parts kp__law_parts kp_is_joined kp_beside kp__law_bent kp_is_lot kp__law_of kp_way kp__law_is_way kp__law_some kp__law_take kp_shows_way hH hr hF) keep
theorem sc_law : FnScope ["script", "place", "pot", "lap"] ["script"] (defScope s_law) := ⟨rfl, rfl, rfl, by decide +kernel, rfl, by decide +kernel, by decide +kernel⟩
theorem d_law (T : Txt K mg) (S : Sps)  (kp__law_cells : FnG P w K mg base 1 T.f__law_cells.f T.f__law_cells.fd ["script", "most"] (spL K [.fz, .fz] S._law_cells)) (kp__law_pot : FnG P w K mg base 1 T.f__law_pot.f T.f__law_pot.fd ["script", "place"] (spL K [.fz, .fz] S._law_pot)) (kp__law_right : FnG P w K mg base 13 T.f__law_right.f T.f__law_right.fd ["pot"] (spL K [.io] S._law_right))  {W : WX} {f : Addr} {cdv : Value} {A : Around} {outer : List Env} {s : Shared} {H : Hp} {E : XK} (hr : Room 13 (A.deeper (envOfC "law" (defScope s_law) s.heap.objs.size f cdv)))
    (hF : FmP (cxOf (L2.CX P w) P w K mg base ["script", "place", "pot", "lap"] "law" (defScope s_law) f cdv A outer s H E) K W w) : RSs (fmOf _ K W w hF) (defBody s_law) (w_law S T.C) := by
  unfold w_law
  exact (rss_cons (rs_for (vs := [1]) (ri_sq (re_call (fun _ => ⟨kp__law_cells, hr.mono (by decide)⟩) (fun _ => T.f__law_cells.m) T.f__law_cells.k T.b__law_cells_2 (ras_v (re_n 0) (ras_v re_int ras_nil)))) (rg_n 1 (by decide)) (rss_cons (rs_set 2 (re_call (fun _ => ⟨kp__law_pot, hr.mono (by decide)⟩) (fun _ => T.f__law_pot.m) T.f__law_pot.k T.b__law_pot_2 (ras_v (re_n 0) (ras_v (re_n 1) ras_nil))))
  (rss_one (rs_if (rt_not (rt_v (re_b cd_all (fun _ => T.n_all) (rrs_cons (rr_e (re_lc (ri_rng1 (rr_e re_int) (fun _ => T.n_range)) (own := [("lap", 3)]) (fun _ => blkOk_by (N := ["script", "place", "pot", "lap"]) (sc := defScope s_law) (by decide +kernel)) (rg_n 3 (by decide)) rts_nil (re_call (fun _ => ⟨kp__law_right, hr.mono (by decide)⟩) (fun _ => T.f__law_right.m) T.f__law_right.k T.b__law_right_1 (ras_s 2 ras_nil)))) rrs_nil)))) (rss_one (rs_ret re_bl)) rss_nil))))
  (rss_one (rs_ret re_bl)))
theorem g_law (T : Txt K mg) (S : Sps)   (kp__law_cells : FnG P w K mg base 1 T.f__law_cells.f T.f__law_cells.fd ["script", "most"] (spL K [.fz, .fz] S._law_cells)) (kp__law_pot : FnG P w K mg base 1 T.f__law_pot.f T.f__law_pot.fd ["script", "place"] (spL K [.fz, .fz] S._law_pot)) (kp__law_right : FnG P w K mg base 13 T.f__law_right.f T.f__law_right.fd ["pot"] (spL K [.io] S._law_right))  (keep : keeps [.fz] 4 S.law (w_law S T.C)) : FnG P w K mg base 14 T.f_law.f T.f_law.fd ["script"] (spL K [.fz] S.law) :=
  FnG.pu T.f_law.T sc_law rfl (by decide) (fun W cdv A outer s H E hF hr => d_law T S kp__law_cells kp__law_pot kp__law_right  hr hF) keep
end
end K01

set_option Elab.async false
set_option linter.all false
set_option maxRecDepth 100000
set_option maxHeartbeats 4000000
/-! K01: the reader and the house (printed by gen.py). -/
namespace K01
open PySem L2 PySem.Spec PyProof.Rows Pu
def w_takes (S : Sps) (CR : Nat) : WS :=
  (wSeq (wSet 2 (wMt "str" kSplit (rN 1) (rsC (rE (wC (.str " "))) rsN)))
  (wSeq (wIfS (tV (wOp kEq (rE (wOp kIx (rN 2) (rE (wC (.int 0))))) (rE (wC (.str "room"))))) wNever wPass)
  (wSeq (wIfS (tOr (tV (wOp kNe (rE (wOp kIx (rN 2) (rE (wC (.int 0))))) (rE (wC (.str "door"))))) (tOr (tV (wOp kNe (rE (wB kLen (rsC (rN 2) rsN))) (rE (wC (.int 3))))) (tV (wOp kEq (rE (wB kLen (rsC (rE (wProp CR "own_doors" (rN 0))) rsN))) (rE (wC (.int 60))))))) (wRet (wC (.bl false))) wPass)
  (wSeq (wAsg (gTn 2 (gsC (gN 3) (gsC (gN 4) gsN))) (wSl (rN 2) (oS (rE (wC (.int 1)))) oN))
  (wSeq (wIfS (tOr (tV (wOp kEq (rN 3) (rN 4))) (tOr (tV (wOp kNotIn (rN 3) (rE (wProp CR "own_rooms" (rN 0))))) (tV (wOp kNotIn (rN 4) (rE (wProp CR "own_rooms" (rN 0))))))) (wRet (wC (.bl false))) wPass)
  (wSeq (wIfS (tOr (tV (wOp kIn (rE (wTup (vsC (wN 3) (vsC (wN 4) vsN)))) (rE (wProp CR "own_doors" (rN 0))))) (tV (wOp kIn (rE (wTup (vsC (wN 4) (vsC (wN 3) vsN)))) (rE (wProp CR "own_doors" (rN 0)))))) (wRet (wC (.bl false))) wPass)
  wPass))))))
def w_takes0 (S : Sps) (CR : Nat) : WS := (wSeq (wSet 2 (wMt "str" kSplit (rN 1) (rsC (rE (wC (.str " "))) rsN))) wPass)
def t_takes (S : Sps) (CR : Nat) : WT := (tV (wOp kEq (rE (wOp kIx (rN 2) (rE (wC (.int 0))))) (rE (wC (.str "room")))))
def w_room (S : Sps) (CR : Nat) : WS :=
  (wSeq (wIfS (tOr (tV (wOp kNe (rE (wB kLen (rsC (rN 1) rsN))) (rE (wC (.int 2))))) (tOr (tV (wOp kNe (rE (wProp CR "own_doors" (rN 0))) (rE (wLst vsN)))) (tV (wOp kEq (rE (wB kLen (rsC (rE (wProp CR "own_rooms" (rN 0))) rsN))) (rE (wC (.int 16))))))) (wRet (wC (.bl false))) wPass)
  (wSeq (wIfS (tOr (tNot (tV (wCall S.is_name (asApp (asV (wOp kIx (rN 1) (rE (wC (.int 1)))) asN) asN)))) (tV (wOp kIn (rE (wOp kIx (rN 1) (rE (wC (.int 1))))) (rE (wProp CR "own_rooms" (rN 0)))))) (wRet (wC (.bl false))) wPass)
  wPass))
def w_told (S : Sps) (CR : Nat) : WS :=
  (wSeq (wSet 1 (wLc (iSq (wProp CR "own_doors" (rN 0))) (gTn 2 (gsC (gN 2) (gsC (gN 3) gsN))) tYes (wB kSorted (rsC (rE (wLst (vsC (wMt "list" kIndex (rE (wProp CR "own_rooms" (rN 0))) (rsC (rN 2) rsN)) (vsC (wMt "list" kIndex (rE (wProp CR "own_rooms" (rN 0))) (rsC (rN 3) rsN)) vsN)))) rsN)) [2, 3]))
  (wRet (wB kTuple (rsC (rE (wLc (iSq (wB kSorted (rsC (rN 1) rsN))) (gTn 2 (gsC (gN 2) (gsC (gN 3) gsN))) tYes (wTup (vsC (wOp kIx (rE (wProp CR "own_rooms" (rN 0))) (rN 2)) (vsC (wOp kIx (rE (wProp CR "own_rooms" (rN 0))) (rN 3)) vsN))) [2, 3])) rsN))))
section
variable {P : Program} {w : World} {K : PySem.W.Frag} {mg : Str → Option Value} {base : Heap}
theorem Txt.bm_init (T : Txt K mg) : Bd T.m_init.fd ["self"] 1 [] := bd_of T.m_init.T fun _ _ _ _ _ _ us ws h1 h2 => match us, ws, h1, h2 with | [_], [], _, _ => rfl
theorem Txt.bm_takes (T : Txt K mg) : Bd T.m_takes.fd ["self", "line"] 2 [] := bd_of T.m_takes.T fun _ _ _ _ _ _ us ws h1 h2 => match us, ws, h1, h2 with | [_, _], [], _, _ => rfl
theorem Txt.bm_room (T : Txt K mg) : Bd T.m_room.fd ["self", "words"] 2 [] := bd_of T.m_room.T fun _ _ _ _ _ _ us ws h1 h2 => match us, ws, h1, h2 with | [_, _], [], _, _ => rfl
theorem Txt.bm_told (T : Txt K mg) : Bd T.m_told.fd ["self"] 1 [] := bd_of T.m_told.T fun _ _ _ _ _ _ us ws h1 h2 => match us, ws, h1, h2 with | [_], [], _, _ => rfl
theorem Txt.bh_init (T : Txt K mg) : Bd T.h_init.fd ["self", "text"] 2 [] := bd_of T.h_init.T fun _ _ _ _ _ _ us ws h1 h2 => match us, ws, h1, h2 with | [_, _], [], _, _ => rfl
theorem scC_init : FnScope ["self"] ["self"] (defScope sR_init) := ⟨rfl, rfl, rfl, by decide +kernel, rfl, by decide +kernel, by decide +kernel⟩
theorem scC_takes : FnScope ["self", "line", "words", "one", "other"] ["self", "line"] (defScope sR_takes) := ⟨rfl, rfl, rfl, by decide +kernel, rfl, by decide +kernel, by decide +kernel⟩
theorem scC_room : FnScope ["self", "words"] ["self", "words"] (defScope sR_room) := ⟨rfl, rfl, rfl, by decide +kernel, rfl, by decide +kernel, by decide +kernel⟩
theorem scC_told : FnScope ["self", "spots", "one", "other"] ["self"] (defScope sR_told) := ⟨rfl, rfl, rfl, by decide +kernel, rfl, by decide +kernel, by decide +kernel⟩
theorem scC_house : FnScope ["self", "text", "reader", "number", "line"] ["self", "text"] (defScope sH_init) := ⟨rfl, rfl, rfl, by decide +kernel, rfl, by decide +kernel, by decide +kernel⟩
theorem dC_takes (T : Txt K mg) (S : Sps)  {W : WX} {f : Addr} {cdv : Value} {A : Around} {outer : List Env} {s : Shared} {H : Hp} {E : XK} (hr : Room 3 (A.deeper (envOfC "Reader.takes" (defScope sR_takes) s.heap.objs.size f cdv)))
    (hF : FmP (cxOf (L2.CX P w) P w K mg base ["self", "line", "words", "one", "other"] "Reader.takes" (defScope sR_takes) f cdv A outer s H E) K W w) : RSx (fmOf _ K W w hF) ((defBody sR_takes).take 6) (w_takes S T.CR) := by
  unfold w_takes
  exact (rx_cons (rs_set 2 (re_split (rr_n 1) (rrs_cons (rr_e re_str) rrs_nil)))
  (rx_cons (rs_if (rt_cmp od_eq (rr_e (re_ix (rr_n 2) (rr_e re_int))) (rr_e (re_gS (fun _ => T.c_ROOM.choose_spec)))) rss_never rss_nil)
  (rx_cons (rs_if (rw_t (rw_or (rt_cmp od_ne (rr_e (re_ix (rr_n 2) (rr_e re_int))) (rr_e (re_gS (fun _ => T.c_DOOR.choose_spec)))) (rw_or (rt_cmp od_ne (rr_e (re_b cd_len (fun _ => T.n_len) (rrs_cons (rr_n 2) rrs_nil))) (rr_e re_int)) (rw_or1 (rt_cmp od_eq (rr_e (re_b cd_len (fun _ => T.n_len) (rrs_cons (rr_e (re_fld "own_doors" T.clR T.noR_doors (rr_n 0))) rrs_nil))) (rr_e (re_gI (fun _ => T.c_MOST_DOORS.choose_spec)))))))) (rss_one (rs_ret re_bl)) rss_nil)
  (rx_cons (rs_asg (vs := [3, 4]) (re_sl (rr_n 2) (ro_s (rr_e re_int)) ro_n) (rg_tn (rgs_cons (rg_n 3 (by decide)) (rgs_cons (rg_n 4 (by decide)) rgs_nil))))
  (rx_cons (rs_if (rw_t (rw_or (rt_cmp od_eq (rr_n 3) (rr_n 4)) (rw_or (rt_cmp od_notIn (rr_n 3) (rr_e (re_fld "own_rooms" T.clR T.noR_rooms (rr_n 0)))) (rw_or1 (rt_cmp od_notIn (rr_n 4) (rr_e (re_fld "own_rooms" T.clR T.noR_rooms (rr_n 0)))))))) (rss_one (rs_ret re_bl)) rss_nil)
  (rx_cons (rs_if (rw_t (rw_or (rt_cmp od_in (rr_e (re_tup (rvs_cons (re_n 3) (rvs_cons (re_n 4) rvs_nil)))) (rr_e (re_fld "own_doors" T.clR T.noR_doors (rr_n 0)))) (rw_or1 (rt_cmp od_in (rr_e (re_tup (rvs_cons (re_n 4) (rvs_cons (re_n 3) rvs_nil)))) (rr_e (re_fld "own_doors" T.clR T.noR_doors (rr_n 0))))))) (rss_one (rs_ret re_bl)) rss_nil)
  rx_nil))))))
theorem dC_takes0 (T : Txt K mg) (S : Sps)  {W : WX} {f : Addr} {cdv : Value} {A : Around} {outer : List Env} {s : Shared} {H : Hp} {E : XK} (hr : Room 3 (A.deeper (envOfC "Reader.takes" (defScope sR_takes) s.heap.objs.size f cdv)))
    (hF : FmP (cxOf (L2.CX P w) P w K mg base ["self", "line", "words", "one", "other"] "Reader.takes" (defScope sR_takes) f cdv A outer s H E) K W w) : RSx (fmOf _ K W w hF) ((defBody sR_takes).take 1) (w_takes0 S T.CR) := by
  unfold w_takes0
  exact (rx_cons (rs_set 2 (re_split (rr_n 1) (rrs_cons (rr_e re_str) rrs_nil))) rx_nil)
theorem dC_takesT (T : Txt K mg) (S : Sps)  {W : WX} {f : Addr} {cdv : Value} {A : Around} {outer : List Env} {s : Shared} {H : Hp} {E : XK} (hr : Room 3 (A.deeper (envOfC "Reader.takes" (defScope sR_takes) s.heap.objs.size f cdv)))
    (hF : FmP (cxOf (L2.CX P w) P w K mg base ["self", "line", "words", "one", "other"] "Reader.takes" (defScope sR_takes) f cdv A outer s H E) K W w) : RT (fmOf _ K W w hF) (match (defBody sR_takes)[1]? with | some (Stmt.If c _ _ _) => c | _ => Expr.Constant .none 0 ⟨0, 0, 0, 0⟩) (t_takes S T.CR) := by
  unfold t_takes
  exact (rt_cmp od_eq (rr_e (re_ix (rr_n 2) (rr_e re_int))) (rr_e (re_gS (fun _ => T.c_ROOM.choose_spec))))
theorem dC_room (T : Txt K mg) (S : Sps) (kp_is_name : FnG P w K mg base 1 T.f_is_name.f T.f_is_name.fd ["value"] (spL K [.fz] S.is_name)) {W : WX} {f : Addr} {cdv : Value} {A : Around} {outer : List Env} {s : Shared} {H : Hp} {E : XK} (hr : Room 2 (A.deeper (envOfC "Reader.takes_room" (defScope sR_room) s.heap.objs.size f cdv)))
    (hF : FmP (cxOf (L2.CX P w) P w K mg base ["self", "words"] "Reader.takes_room" (defScope sR_room) f cdv A outer s H E) K W w) : RSx (fmOf _ K W w hF) ((defBody sR_room).take 2) (w_room S T.CR) := by
  unfold w_room
  exact (rx_cons (rs_if (rw_t (rw_or (rt_cmp od_ne (rr_e (re_b cd_len (fun _ => T.n_len) (rrs_cons (rr_n 1) rrs_nil))) (rr_e re_int)) (rw_or (rt_cmp od_ne (rr_e (re_fld "own_doors" T.clR T.noR_doors (rr_n 0))) (rr_e (re_lst rvs_nil))) (rw_or1 (rt_cmp od_eq (rr_e (re_b cd_len (fun _ => T.n_len) (rrs_cons (rr_e (re_fld "own_rooms" T.clR T.noR_rooms (rr_n 0))) rrs_nil))) (rr_e (re_gI (fun _ => T.c_MOST_ROOMS.choose_spec)))))))) (rss_one (rs_ret re_bl)) rss_nil)
  (rx_cons (rs_if (rw_t (rw_or (rt_not (rt_v (re_call (fun _ => ⟨kp_is_name, hr.mono (by decide)⟩) (fun _ => T.f_is_name.m) T.f_is_name.k T.b_is_name_1 (ras_v (re_ix (rr_n 1) (rr_e re_int)) ras_nil)))) (rw_or1 (rt_cmp od_in (rr_e (re_ix (rr_n 1) (rr_e re_int))) (rr_e (re_fld "own_rooms" T.clR T.noR_rooms (rr_n 0))))))) (rss_one (rs_ret re_bl)) rss_nil)
  rx_nil))
theorem dC_told (T : Txt K mg) (S : Sps)  {W : WX} {f : Addr} {cdv : Value} {A : Around} {outer : List Env} {s : Shared} {H : Hp} {E : XK} (hr : Room 2 (A.deeper (envOfC "Reader.told_doors" (defScope sR_told) s.heap.objs.size f cdv)))
    (hF : FmP (cxOf (L2.CX P w) P w K mg base ["self", "spots", "one", "other"] "Reader.told_doors" (defScope sR_told) f cdv A outer s H E) K W w) : RSs (fmOf _ K W w hF) (defBody sR_told) (w_told S T.CR) := by
  unfold w_told
  exact (rss_cons (rs_lc 1 (ri_sq (re_fld "own_doors" T.clR T.noR_doors (rr_n 0))) (own := [("one", 2), ("other", 3)]) (fun _ => blkOk_by (N := ["self", "spots", "one", "other"]) (sc := defScope sR_told) (by decide +kernel)) (rg_tn (rgs_cons (rg_n 2 (by decide)) (rgs_cons (rg_n 3 (by decide)) rgs_nil))) rts_nil (re_b cd_sorted (fun _ => T.n_sorted) (rrs_cons (rr_e (re_lst (rvs_cons (re_index (rr_e (re_fld "own_rooms" T.clR T.noR_rooms (rr_n 0))) (rrs_cons (rr_n 2) rrs_nil)) (rvs_cons (re_index (rr_e (re_fld "own_rooms" T.clR T.noR_rooms (rr_n 0))) (rrs_cons (rr_n 3) rrs_nil)) rvs_nil)))) rrs_nil)) (fun _ => sw_true rfl rfl rfl (by decide +kernel)))
  (rss_one (rs_ret (re_ty cd_tuple (fun _ => T.n_tuple) (rrs_cons (rr_e (re_lc (ri_sq (re_b cd_sorted (fun _ => T.n_sorted) (rrs_cons (rr_n 1) rrs_nil))) (own := [("one", 2), ("other", 3)]) (fun _ => blkOk_by (N := ["self", "spots", "one", "other"]) (sc := defScope sR_told) (by decide +kernel)) (rg_tn (rgs_cons (rg_n 2 (by decide)) (rgs_cons (rg_n 3 (by decide)) rgs_nil))) rts_nil (re_tup (rvs_cons (re_ix (rr_e (re_fld "own_rooms" T.clR T.noR_rooms (rr_n 0))) (rr_n 2)) (rvs_cons (re_ix (rr_e (re_fld "own_rooms" T.clR T.noR_rooms (rr_n 0))) (rr_n 3)) rvs_nil))))) rrs_nil)))))
end
end K01

set_option Elab.async false
set_option linter.all false
set_option maxRecDepth 100000
set_option maxHeartbeats 4000000
namespace K01
open PySem L2 PySem.Spec PyProof.Rows Pu TL
def spName : DSp := fun ds Q _ => ∃ x, ds = [.str x] ∧ OkName x ∧ Q (.fz (.bl true)) [.non]
theorem good_names {rs : List Str} (h : ∀ x ∈ rs, OkName x) : (D.lst (rs.map D.str)).good = true := by
  refine good_lst (n := 0) (fun d m => ?_) (fun d m => ?_)
  · obtain ⟨x, mx, rfl⟩ := List.mem_map.mp m
    exact (h x mx).ok
  · obtain ⟨x, mx, rfl⟩ := List.mem_map.mp m
    exact Nat.le_refl _
theorem good_doors {ds : List (Str × Str)} (h : ∀ d ∈ ds, OkName d.1 ∧ OkName d.2) : (D.lst (ds.map fun d => .tup [.str d.1, .str d.2])).good = true := by
  refine good_lst (n := 1) (fun d m => ?_) (fun d m => ?_)
  · obtain ⟨x, mx, rfl⟩ := List.mem_map.mp m
    exact Bool.and_eq_true_iff.mpr ⟨(h x mx).1.ok, Bool.and_eq_true_iff.mpr ⟨(h x mx).2.ok, rfl⟩⟩
  · obtain ⟨x, mx, rfl⟩ := List.mem_map.mp m
    exact Nat.le_refl _
theorem good_pair {a b : Str} (ha : OkName a) (hb : OkName b) : (D.tup [.str a, .str b]).good = true := by
  refine good_tup (n := 0) (fun d m => ?_) (fun d m => ?_)
  · rcases List.mem_cons.mp m with rfl | m
    · exact ha.ok
    · rw [List.mem_singleton.mp m]; exact hb.ok
  · rcases List.mem_cons.mp m with rfl | m
    · exact Nat.le_refl _
    · rw [List.mem_singleton.mp m]; exact Nat.le_refl _
theorem wr_room {S : Sps} {CR r : Nat} (hS : S.is_name = spName) {rs : List Str} {nm : Str} (ok : OkName nm) (oks : ∀ x ∈ rs, OkName x) (hlt : rs.length < 16) (hnm : nm ∉ rs) :
    w_room S CR { nx := fun ρ => ρ = [.fz (.at r (rdD CR rs [])), .fz (.lst [.str "room", .str nm])], rt := fun _ _ => False } [.fz (.at r (rdD CR rs [])), .fz (.lst [.str "room", .str nm])] := by
  have g1 := good_names oks
  have g2 := good_str ok.ok
  have g3 : (D.lst []).good = true := rfl
  simp [w_room, rdD, hS, spName, g1, g2, g3, ok, kIx.kIxS, atI, ixN]
  refine ⟨by omega, fun a m e => hnm (e ▸ m)⟩
theorem room_door : ¬ (("door" : Str) = "room") := by decide +kernel
theorem wr_takes {S : Sps} {CR r : Nat} {rs : List Str} {ds : List (Str × Str)} {one other : Str} (oks : ∀ x ∈ rs, OkName x) (okd : ∀ d ∈ ds, OkName d.1 ∧ OkName d.2) (hne : one ≠ other) (h1 : one ∈ rs) (h2 : other ∈ rs) (n1 : (one, other) ∉ ds) (n2 : (other, one) ∉ ds) (hl : ds.length < 60) :
    w_takes S CR { nx := fun ρ => ρ = [.fz (.at r (rdD CR rs ds)), .fz (.str (doorLine one other)), .ow (.lst [.str "door", .str one, .str other]), .fz (.str one), .fz (.str other)], rt := fun _ _ => False } [.fz (.at r (rdD CR rs ds)), .fz (.str (doorLine one other)), .un, .un, .un] := by
  have g1 := good_names oks
  have g2 := good_doors okd
  have k1 := oks _ h1
  have k2 := oks _ h2
  have g3 := good_str k1.ok
  have g4 := good_str k2.ok
  have g5 := good_pair k1 k2
  have g6 := good_pair k2 k1
  have e1 := split_door k1.all k2.all
  have e2 : (doorLine one other).length + 2 ≤ sizeLine := by
    have a1 := k1.few
    have a2 := k2.few
    refine Nat.le_trans ?_ line1000
    rw [len_tl]
    unfold doorLine
    rw [tl_append, tl_append, tl_append, tl_append, door_tl, sp_tl, List.length_append, List.length_append, List.length_append, List.length_append]
    simp only [List.length_cons, List.length_nil]
    omega
  have e3 : (" " : Str).length = 1 := by decide +kernel
  simp [w_takes, rdD, kIx.kIxS, atI, ixN, e1, e2, g1, g2, g3, g4, g5, g6, room_door, hne, h1, h2, e3, Pu.cutD, HT.sIx]
  exact ⟨by omega, n1, n2⟩
theorem slotZ {K : PySem.W.Frag} {B : Bs} {σ : L2.St} {H : Hp} {ρ : En} {Z : Hp} (S : St1 K B σ H ρ Z []) {i : Nat} {d : D} (e : ρ[i]? = some (.fz d)) : ∃ u, σ[i]? = some (some u) ∧ Rp K Z u d := by
  obtain ⟨v, l, r, e1, e2, e3⟩ := zip_focus S.len e
  have R := S.rp
  simp only [tmps, List.map_nil, List.append_nil, e2] at R
  obtain ⟨g, q, _, _⟩ := Reps.at R
  obtain ⟨_, u, rfl, q⟩ := q
  exact ⟨u, e1, q⟩
theorem slotAt {K : PySem.W.Frag} {B : Bs} {σ : L2.St} {H : Hp} {ρ : En} {Z : Hp} (S : St1 K B σ H ρ Z []) {i : Nat} {r : Addr} {d : D} (e : ρ[i]? = some (.fz (.at r d))) : σ[i]? = some (some (.ref r)) := by
  obtain ⟨u, e1, q⟩ := slotZ S e
  cases q with
  | «at» _ => exact e1
theorem slotStr {K : PySem.W.Frag} {B : Bs} {σ : L2.St} {H : Hp} {ρ : En} {Z : Hp} (S : St1 K B σ H ρ Z []) {i : Nat} {x : Str} (e : ρ[i]? = some (.fz (.str x))) : σ[i]? = some (some (.str x)) := by
  obtain ⟨u, e1, q⟩ := slotZ S e
  cases q with
  | str _ => exact e1
section
variable {P : Program} {w : World} {K : PySem.W.Frag} {mg : Str → Option Value} {base : Heap}
theorem r_room (T : Txt K mg) (S : Sps) (hS : S.is_name = spName) (kp_is_name : FnG P w K mg base 1 T.f_is_name.f T.f_is_name.fd ["value"] (spL K [.fz] S.is_name)) : FnG P w K mg base 3 T.m_room.f T.m_room.fd ["self", "words"] (spRoom K T.CR) := by
  refine FnG.def T.m_room.T scC_room (fun vs H Q E h => ?_) (fun cdv A outer s H vs Q E hr hgd h => ?_)
  · obtain ⟨r, dx, a, b, rs, wv, nm, rfl, _⟩ := h
    rfl
  · obtain ⟨r, dx, a, b, rs, wv, nm, rfl, hR, hw, ok, oks, hlt, hnm, k⟩ := h
    have hF := fmP_of (outer := outer) (P := P) (w := w) (K := K) (mg := mg) (base := base) (f := T.m_room.f) (E := E) (H := H) scC_room hr hgd
    obtain ⟨TT, x1, x2⟩ := dC_room T S kp_is_name hr hF
    refine ⟨_, x1 () _ _ (pss_cons (ps_expr (pe_bm PySem.F.plainAttrs_list PySem.F.slot_list_append PySem.F.type_list_append mt_append (pe_fld (pv 0) rfl) (pa_cons (pe_ix ix_list (pv 1) pe_int (by intro _ _; rfl)) pa_nil))) (pss_one (ps_ret pe_bl))), ?_⟩
    refine x2 _ (allB H) _ H [.fz (.at r (rdD T.CR rs [])), .fz (.lst [.str "room", .str nm])] H _ _ (St1.all rfl (.cons (.inr ⟨_, _, rfl, rfl, .at hR.rp⟩) (.cons (.inr ⟨_, _, rfl, rfl, hw⟩) .nil))) (noEnds fun σ H' ρ Z S1 hρ => ?_) (wr_room hS ok oks hlt hnm)
    subst hρ
    have s0 := slotAt S1 (i := 0) rfl
    obtain ⟨wv', s1, rw'⟩ := slotZ S1 (i := 1) rfl
    have hR' := hR.up S1.fx
    cases rw' with
    | lst e1 rl =>
    rename_i wa vs
    cases rl with
    | cons _ rl =>
    cases rl with
    | cons q1 rl =>
    cases q1 with
    | str _ =>
    cases rl with
    | nil =>
    have G := hR.room S1.fx nm
    refine ⟨.ref r, s0, r, T.CR, dx, _, .ref a, rfl, hR'.ob, T.clR, T.noR_rooms, rfl, .inl ⟨rfl, _, .inl (.inl hR'.ro)⟩, .ref wa, s1, ⟨wa, _, 1, .str nm, rfl, rfl, .inl (.inl (S1.sub _ _ e1)), rfl, ?_⟩⟩
    refine ⟨a, _, .str nm, rfl, rfl, hR'.ro, ?_, ?_⟩
    · rw [List.length_map]; exact Nat.lt_trans hlt (by decide)
    · have e : (upd H' a (.lst (List.map V.str rs ++ [.str nm]))) = upd H' a (.lst ((rs ++ [nm]).map .str)) := by rw [List.map_append]; rfl
      rw [e]
      exact k _ G.1 G.2
theorem wr_takes0 {S : Sps} {CR r : Nat} {ds : List (Str × Str)} {rs : List Str} {nm : Str} (ok : OkName nm) :
    w_takes0 S CR { nx := fun ρ => ρ = [.fz (.at r (rdD CR rs ds)), .fz (.str (roomLine nm)), .ow (.lst [.str "room", .str nm]), .un, .un], rt := fun _ _ => False } [.fz (.at r (rdD CR rs ds)), .fz (.str (roomLine nm)), .un, .un, .un] := by
  have e1 := split_room ok.all
  have e2 : (roomLine nm).length + 2 ≤ sizeLine := by
    have a1 := ok.few
    refine Nat.le_trans ?_ line1000
    rw [len_tl]
    unfold roomLine
    rw [tl_append, tl_append, room_tl, sp_tl, List.length_append, List.length_append]
    simp only [List.length_cons, List.length_nil]
    omega
  have e3 : (" " : Str).length = 1 := by decide +kernel
  simp [w_takes0, rdD, e1, e2, e3]
theorem wr_takesT {S : Sps} {CR r : Nat} {ds : List (Str × Str)} {rs : List Str} {ln nm : Str} {E : EX} :
    t_takes S CR E [.fz (.at r (rdD CR rs ds)), .fz (.str ln), .fz (.lst [.str "room", .str nm]), .un, .un] (fun b ρ => b = true ∧ ρ = [.fz (.at r (rdD CR rs ds)), .fz (.str ln), .fz (.lst [.str "room", .str nm]), .un, .un]) := by
  simp [t_takes, kIx.kIxS, atI, ixN]
theorem r_takes (T : Txt K mg) (S : Sps) (hS : S.is_name = spName) (kp_is_name : FnG P w K mg base 1 T.f_is_name.f T.f_is_name.fd ["value"] (spL K [.fz] S.is_name)) : FnG P w K mg base 4 T.m_takes.f T.m_takes.fd ["self", "line"] (spTakes T.CR) := by
  refine FnG.def T.m_takes.T scC_takes (fun vs H Q E h => ?_) (fun cdv A outer s H vs Q E hr hgd h => ?_)
  · obtain ⟨r, dx, a, b, rs, ts, ds, line, rfl, _⟩ := h
    rfl
  · obtain ⟨r, dx, a, b, rs, ts, ds, line, rfl, hR, oks, okd, h⟩ := h
    have hF := fmP_of (outer := outer) (P := P) (w := w) (K := K) (mg := mg) (base := base) (f := T.m_takes.f) (E := E) (H := H) scC_takes hr hgd
    rcases h with ⟨nm, rfl, ok, hlt, hnm, rfl, rfl, k⟩ | ⟨one, other, rfl, hne, h1, h2, n1, n2, hl, hl2, k⟩
    · obtain ⟨TT, x1, x2⟩ := dC_takes0 T S hr hF
      obtain ⟨tt, y1, y2⟩ := dC_takesT T S hr hF
      refine ⟨_, x1 () _ _ (pss_cons (ps_if (y1 ()) (pss_one (ps_ret (pg_meth (pv 0) T.clR T.mt_room (r_room T S hS kp_is_name) (hr.mono (by decide)) hgd T.bm_room hF.tk (pa_cons (pv 2) pa_nil)))) pss_nil) pss_never), ?_⟩
      refine x2 _ (allB H) _ H [.fz (.at r (rdD T.CR rs [])), .fz (.str (roomLine nm)), .un, .un, .un] H _ _ (St1.all rfl (.cons (.inr ⟨_, _, rfl, rfl, .at hR.rp⟩) (.cons (.inr ⟨_, _, rfl, rfl, .str _⟩) (.cons (.inl rfl) (.cons (.inl rfl) (.cons (.inl rfl) .nil)))))) (noEnds fun σ H' ρ Z S1 hρ => ?_) (wr_takes0 ok)
      subst hρ
      obtain ⟨Z1, wv, le1, e1, S2, q2⟩ := St1.thawS S1 (i := 2) rfl (.inr (.inl rfl))
      refine y2 (allB H) _ _ _ Z1 _ _ noEX S2 (fun _ _ _ _ _ _ _ _ _ _ _ q => (show False from q).elim) wr_takesT (fun bb H2 ρ2 Z2 S3 le2 hq => ?_)
      obtain ⟨rfl, rfl⟩ := hq
      have s0 := slotAt S3 (i := 0) rfl
      obtain ⟨wv', s2, rw'⟩ := slotZ S3 (i := 2) rfl
      have hR' := hR.up S3.fx
      refine ⟨.ref r, s0, r, dx, _, rfl, hR'.ob, rfl, wv', s2, rfl, ?_⟩
      refine ⟨r, dx, a, b, rs, wv', nm, rfl, hR', Rp.le S3.sub _ _ rw', ok, oks, hlt, hnm, fun H3 hR3 k3 => k H3 hR3 fun c o e ne => k3 c o (S3.fx c o e) ne⟩
    · obtain ⟨TT, x1, x2⟩ := dC_takes T S hr hF
      refine ⟨_, x1 () _ _ (pss_cons (ps_expr (pe_bm PySem.F.plainAttrs_list PySem.F.slot_list_append PySem.F.type_list_append mt_append (pe_fld (pv 0) rfl) (pa_cons (pe_tup (pa_cons (pv 3) (pa_cons (pv 4) pa_nil))) pa_nil))) (pss_one (ps_ret pe_bl))), ?_⟩
      refine x2 _ (allB H) _ H [.fz (.at r (rdD T.CR rs ds)), .fz (.str (doorLine one other)), .un, .un, .un] H _ _ (St1.all rfl (.cons (.inr ⟨_, _, rfl, rfl, .at hR.rp⟩) (.cons (.inr ⟨_, _, rfl, rfl, .str _⟩) (.cons (.inl rfl) (.cons (.inl rfl) (.cons (.inl rfl) .nil)))))) (noEnds fun σ H' ρ Z S1 hρ => ?_) (wr_takes oks okd hne h1 h2 n1 n2 hl)
      subst hρ
      have s0 := slotAt S1 (i := 0) rfl
      have s3 := slotStr S1 (i := 3) rfl
      have s4 := slotStr S1 (i := 4) rfl
      have hR' := hR.up S1.fx
      refine ⟨.ref r, s0, r, T.CR, dx, _, .ref b, rfl, hR'.ob, T.clR, T.noR_doors, rfl, .inl ⟨rfl, _, .inl (.inl hR'.do_)⟩, .str one, s3, .str other, s4, Nat.le_trans (m := 10) (by show 2 ≤ 10; decide) (by decide), fun p hp => ?_⟩
      have kk : ∀ c o, H c = some o → upd H' p (.tup [.str one, .str other]) c = some o := fun c o e => by
        have := S1.fx c o e
        rw [upd_ne (ne_of_none this hp)]; exact this
      have G := hR.door kk one other (t := p) upd_same
      refine ⟨b, ts.map .ref, .ref p, rfl, rfl, (hR.up kk).do_, ?_, ?_⟩
      · have e : ts.length = ds.length := hR.pa.length
        rw [List.length_map, e]; exact Nat.lt_trans hl (by decide)
      · have e : (upd (upd H' p (.tup [.str one, .str other])) b (.lst (List.map V.ref ts ++ [.ref p]))) = upd (upd H' p (.tup [.str one, .str other])) b (.lst ((ts ++ [p]).map .ref)) := by rw [List.map_append]; rfl
        rw [e]
        exact k _ p (by cases e2 : H p with | none => rfl | some o => rw [S1.fx p o e2] at hp; cases hp) G.1 G.2
end
end K01

set_option Elab.async false
set_option linter.all false
set_option maxRecDepth 100000
set_option maxHeartbeats 4000000
namespace K01
open PySem L2 PySem.Spec PyProof.Rows Pu TL
theorem firstAt_str {x : Str} : ∀ {rs : List Str} (n : Nat), x ∈ rs → ∃ i, firstAt (.str x) n (rs.map D.str) = some (n + i) ∧ rs[i]? = some x
  | [], _, h => by cases h
  | r :: rs, n, h => by
    unfold firstAt
    by_cases e : r = x
    · subst e
      exact ⟨0, by simp [beq_ss], rfl⟩
    · obtain ⟨i, h1, h2⟩ := firstAt_str (rs := rs) (n + 1) (by
        rcases List.mem_cons.mp h with h | h
        · exact absurd h.symm e
        · exact h)
      exact ⟨i + 1, by simp [beq_ss, e, h1]; omega, h2⟩
def idx (rs : List Str) (x : Str) : Nat := ((firstAt (.str x) 0 (rs.map D.str)).getD 0)
theorem idx_at {rs : List Str} {x : Str} (h : x ∈ rs) : firstAt (.str x) 0 (rs.map D.str) = some (idx rs x) ∧ rs[idx rs x]? = some x := by
  obtain ⟨i, h1, h2⟩ := firstAt_str 0 h
  unfold idx
  rw [h1]
  simp [h2]
/-- a comprehension over items that are known -/
theorem lcU {wi : WI} {g : WG} {te : WE} {vs : List Nat} {E : EX} {ρ : En} {Q : Sl → En → Prop} (its : List D) (f : D → D) (hi : ∀ P : List D → En → Prop, P its ρ → wi E ρ P) (hl : its.length ≤ sizeLine)
    (hb : ∀ x ∈ its, ∀ P : D → En → Prop, P (f x) (wipeE ρ vs) → g (.fz x) (wipeE ρ vs) fun ρ2 => te noEX ρ2 fun s ρ4 => s.fr fun d => P d (wipeE ρ4 vs))
    (hq : Q (.ow (.lst (its.map f))) (backE ρ (wipeE ρ vs) vs)) : wLc wi g tYes te vs E ρ Q := hi _ (lc_map f hl hb hq)
theorem lcF {wi : WI} {g : WG} {tt : WT} {te : WE} {vs : List Nat} {E : EX} {ρ : En} {Q : Sl → En → Prop} (its : List D) (f : D → Option D) (hi : ∀ P : List D → En → Prop, P its ρ → wi E ρ P) (hl : its.length ≤ sizeLine)
    (hb : ∀ x ∈ its, ∀ (P : D → En → Prop) (N : En → Prop), (∀ d, f x = some d → P d (wipeE ρ vs)) → (f x = none → N (wipeE ρ vs)) →
      g (.fz x) (wipeE ρ vs) fun ρ2 => tt noEX ρ2 fun b ρ3 => if b = true then te noEX ρ3 fun s ρ4 => s.fr fun d => P d (wipeE ρ4 vs) else N (wipeE ρ3 vs))
    (hq : Q (.ow (.lst (its.filterMap f))) (backE ρ (wipeE ρ vs) vs)) : wLc wi g tt te vs E ρ Q := hi _ (lc_in f hl hb hq)
def two (rs : List Str) (d : Str × Str) : List D := [D.int (idx rs d.1 : Nat), D.int (idx rs d.2 : Nat)].mergeSort leD
theorem two_or (rs : List Str) (d : Str × Str) : two rs d = [D.int (idx rs d.1 : Nat), D.int (idx rs d.2 : Nat)] ∨ two rs d = [D.int (idx rs d.2 : Nat), D.int (idx rs d.1 : Nat)] := by
  have p : (two rs d).Perm [D.int (idx rs d.1 : Nat), D.int (idx rs d.2 : Nat)] := List.mergeSort_perm _ _
  have l := p.length_eq
  match e : two rs d, l with
  | [a, b], _ =>
    rw [e] at p
    have ma := p.mem_iff (a := a) |>.mp (by simp)
    rcases List.mem_cons.mp ma with rfl | ma
    · left
      have := (List.perm_cons _).mp p
      rw [List.perm_singleton.mp this]
    · right
      obtain rfl : a = _ := List.mem_singleton.mp ma
      have p2 := p.trans (List.Perm.swap _ _ [])
      have := (List.perm_cons _).mp p2
      rw [List.perm_singleton.mp this]
def tgp (rs : List Str) : D → Str × Str
  | .lst [.int i, .int j] => (rs[i.toNat]?.getD default, rs[j.toNat]?.getD default)
  | _ => default
def spotsOf (rs : List Str) (ds : List (Str × Str)) : List D := ((ds.map fun d => D.lst (two rs d))).mergeSort leD
theorem wr_told {S : Sps} {CR r : Nat} {rs : List Str} {ds : List (Str × Str)} (oks : ∀ x ∈ rs, OkName x) (okd : ∀ d ∈ ds, d.1 ∈ rs ∧ d.2 ∈ rs) (hl : ds.length ≤ 60) {R : Sl → En → Prop}
    (h : ∀ told : List (Str × Str), (∃ fl : Str × Str → Str × Str, (∀ d ∈ ds, fl d = d ∨ fl d = (d.2, d.1)) ∧ told.Perm (ds.map fl)) → ∀ ρ, R (.fz (.tup (told.map fun d => .tup [.str d.1, .str d.2]))) ρ) :
    w_told S CR { nx := fun _ => False, rt := R } [.fz (.at r (rdD CR rs ds)), .un, .un, .un] := by
  have g1 := good_names oks
  unfold w_told
  simp only [wSeq, wSet, rdD]
  refine lcU (ds.map fun d => D.tup [.str d.1, .str d.2]) (fun d => match d with | .tup [.str a, .str b] => D.lst (two rs (a, b)) | _ => .non) (fun P h => by simpa using h) ?_ (fun x m P k => ?_) ?_
  · rw [List.length_map]; exact Nat.le_trans hl (by decide)
  · obtain ⟨d, md, rfl⟩ := List.mem_map.mp m
    obtain ⟨m1, m2⟩ := okd d md
    have g2 := good_str (oks _ m1).ok
    have g3 := good_str (oks _ m2).ok
    simp [g1, g2, g3, (idx_at m1).1, (idx_at m2).1]
    refine ⟨rfl, ?_, .inr ?_, by decide, ⟨Nat.zero_le _, Nat.zero_le _⟩, k⟩
    · intro a ma b mb
      simp at ma mb
      rcases ma with rfl | rfl <;> rcases mb with rfl | rfl <;> rfl
    · intro a ma
      simp at ma
      rcases ma with rfl | rfl <;> exact ⟨by simp [D.py], by simp [D.py]⟩
  · have e0 : (List.map (fun d => match d with | .tup [.str a, .str b] => D.lst (two rs (a, b)) | _ => D.non) (ds.map fun d => D.tup [.str d.1, .str d.2])) = ds.map fun d => D.lst (two rs d) := by
      rw [List.map_map]; rfl
    rw [e0]
    have h2 : ∀ x ∈ (ds.map fun d => D.lst (two rs d)), ∃ i j : Nat, x = .lst [.int i, .int j] := fun x m => by
      obtain ⟨d, md, rfl⟩ := List.mem_map.mp m
      rcases two_or rs d with e | e <;> exact ⟨_, _, by rw [e]⟩
    have pm : (spotsOf rs ds).Perm (ds.map fun d => D.lst (two rs d)) := List.mergeSort_perm _ _
    simp only [wRet, wB, rsC, rE, rsN]
    show wLc _ _ _ _ _ _ [.fz (.at r (rdD CR rs ds)), .ow (.lst (ds.map fun d => D.lst (two rs d))), .un, .un] _
    refine lcU (spotsOf rs ds) (fun d => D.tup [.str (tgp rs d).1, .str (tgp rs d).2]) (fun P h => ?_) ?_ (fun x m P k => ?_) ?_
    · simp
      refine ⟨?_, ?_, .inr ?_, Nat.le_trans hl (by decide), ?_, h⟩
      · exact plains_of fun x m => by
          obtain ⟨i, j, rfl⟩ := h2 x m
          rfl
      · intro a ma b mb
        obtain ⟨a', ma', rfl⟩ := List.mem_map.mp ma
        obtain ⟨b', mb', rfl⟩ := List.mem_map.mp mb
        obtain ⟨i, j, e1⟩ := h2 _ (List.mem_map.mpr ⟨_, ma', rfl⟩)
        obtain ⟨i', j', e2⟩ := h2 _ (List.mem_map.mpr ⟨_, mb', rfl⟩)
        show W.alike (D.lst (two rs a')).py (D.lst (two rs b')).py = true
        rw [e1, e2]
        rfl
      · intro a ma
        obtain ⟨a', ma', rfl⟩ := List.mem_map.mp ma
        obtain ⟨i, j, e1⟩ := h2 _ (List.mem_map.mpr ⟨_, ma', rfl⟩)
        show (D.lst (two rs a')).py ≠ _ ∧ ∀ xs, (D.lst (two rs a')).py ≠ _
        rw [e1]
        exact ⟨by simp [D.py], by simp [D.py]⟩
      · intro a x y ma ea
        obtain ⟨i, j, e1⟩ := h2 a (List.mem_map.mpr ⟨(x, y), ma, ea⟩)
        rw [e1]
        exact (by decide : 1 ≤ 64)
    · rw [pm.length_eq, List.length_map]; exact Nat.le_trans hl (by decide)
    · obtain ⟨d, md, e⟩ := List.mem_map.mp (pm.mem_iff.mp m)
      subst e
      obtain ⟨m1, m2⟩ := okd d md
      have l1 := (List.getElem?_eq_some_iff.mp (idx_at m1).2).1
      have l2 := (List.getElem?_eq_some_iff.mp (idx_at m2).2).1
      rcases two_or rs d with e | e <;> rw [e] at k ⊢ <;> simp [rdD, kIx.kIxS, atI, ixN, l1, l2] <;> simpa [tgp, rdD, l1, l2] using k
    · show R _ _
      have := h ((spotsOf rs ds).map (tgp rs)) ⟨fun d => tgp rs (.lst (two rs d)), fun d md => ?_, ?_⟩
      · rw [List.map_map] at this
        exact this _
      · obtain ⟨m1, m2⟩ := okd d md
        have e1 := (idx_at m1).2
        have e2 := (idx_at m2).2
        rcases two_or rs d with e | e
        · left; simp [e, tgp, e1, e2]
        · right; simp [e, tgp, e1, e2]
      · have := pm.map (tgp rs)
        rw [List.map_map] at this
        exact this
def Told (ds told : List (Str × Str)) : Prop := ∃ fl : Str × Str → Str × Str, (∀ d ∈ ds, fl d = d ∨ fl d = (d.2, d.1)) ∧ told.Perm (ds.map fl)
def prs (ds : List (Str × Str)) : List D := ds.map fun d => .tup [.str d.1, .str d.2]
def foot (r a b : Addr) (ts : List Addr) (c : Addr) : Prop := c = r ∨ c = a ∨ c = b ∨ c ∈ ts
def spTold (K : PySem.W.Frag) (C : Addr) : Sp := fun vs H Q _ => ∃ (r dx a b : Addr) (rs : List Str) (ts : List Addr) (ds : List (Str × Str)), vs = [.ref r] ∧ RdAt C H r dx a b rs ts ds ∧ (∀ x ∈ rs, OkName x) ∧ (∀ d ∈ ds, d.1 ∈ rs ∧ d.2 ∈ rs) ∧ ds.length ≤ 60 ∧
  ∀ told v H', Told ds told → (∀ c o, H c = some o → H' c = some o) → (∃ Z', Rp K Z' v (.tup (prs told)) ∧ Le Z' H' ∧ ∀ c o, Z' c = some o → foot r a b ts c ∨ H c = none) → Q v H'
def partB (Z H : Hp) : Bs := { allB H with Zb := Z }
theorem St1.part {K : PySem.W.Frag} {σ : L2.St} {H Z : Hp} {ρ : En} (hz : Le Z H) (hl : σ.length = ρ.length) (h : Paired (fun v s => s = .un ∨ ∃ u d, v = some u ∧ s = .fz d ∧ Rp K Z u d) σ ρ) : St1 K (partB Z H) σ H ρ Z [] := by
  refine ⟨hl, hz, fun _ _ e => .inl e, fun _ _ e => e, fun _ _ e => e, fun _ e => e, ?_⟩
  simp only [tmps, List.map_nil, List.append_nil]
  have : ∀ {σ : L2.St} {ρ : En}, Paired (fun v s => s = .un ∨ ∃ u d, v = some u ∧ s = .fz d ∧ Rp K Z u d) σ ρ → ∃ fps : List (List Addr), Paired (fun (e : Ent) fp => SlR K (partB Z H) Z H e.1 fp e.2) (σ.zip ρ) fps ∧ fps.flatten = [] := by
    intro σ ρ h
    induction h with
    | nil => exact ⟨[], .nil, rfl⟩
    | cons q _ ih =>
      obtain ⟨fps, p, e⟩ := ih
      rcases q with rfl | ⟨u, d, rfl, rfl, r⟩
      · exact ⟨[] :: fps, .cons rfl p, by simpa using e⟩
      · exact ⟨[] :: fps, .cons ⟨rfl, u, rfl, r⟩ p, by simpa using e⟩
  obtain ⟨fps, p, e⟩ := this h
  exact ⟨fps, p, by rw [e]; exact List.nodup_nil⟩
noncomputable def cut (H : Hp) (p : Addr → Prop) : Hp := fun c => open Classical in if p c then H c else none
theorem cut_in {H : Hp} {p : Addr → Prop} {c : Addr} {o : HO} (h : H c = some o) (hp : p c) : cut H p c = some o := by unfold cut; rw [if_pos hp]; exact h
theorem cut_of {H : Hp} {p : Addr → Prop} {c : Addr} {o : HO} (h : cut H p c = some o) : H c = some o ∧ p c := by
  unfold cut at h
  by_cases hp : p c
  · rw [if_pos hp] at h; exact ⟨h, hp⟩
  · rw [if_neg hp] at h; cases h
theorem rdAt_cut {C : Addr} {H : Hp} {r dx a b : Addr} {rs : List Str} {ts : List Addr} {ds : List (Str × Str)} (h : RdAt C H r dx a b rs ts ds) : RdAt C (cut H (foot r a b ts)) r dx a b rs ts ds := by
  refine ⟨cut_in h.ob (.inl rfl), cut_in h.ro (.inr (.inl rfl)), cut_in h.do_ (.inr (.inr (.inl rfl))), ?_, h.ab⟩
  have : ∀ {us : List Addr} {ds : List (Str × Str)}, (∀ u ∈ us, u ∈ ts) → Paired (fun t (d : Str × Str) => H t = some (.tup [.str d.1, .str d.2])) us ds → Paired (fun t (d : Str × Str) => cut H (foot r a b ts) t = some (.tup [.str d.1, .str d.2])) us ds := by
    intro us ds hu p
    induction p with
    | nil => exact .nil
    | cons q _ ih => exact .cons (cut_in q (.inr (.inr (.inr (hu _ (List.mem_cons_self ..)))))) (ih fun u m => hu u (List.mem_cons_of_mem _ m))
  exact this (fun _ m => m) h.pa
section
variable {P : Program} {w : World} {K : PySem.W.Frag} {mg : Str → Option Value} {base : Heap}
theorem r_told (T : Txt K mg) (S : Sps) : FnG P w K mg base 3 T.m_told.f T.m_told.fd ["self"] (spTold K T.CR) := by
  refine FnG.def T.m_told.T scC_told (fun vs H Q E h => ?_) (fun cdv A outer s H vs Q E hr hgd h => ?_)
  · obtain ⟨r, dx, a, b, rs, ts, ds, rfl, _⟩ := h
    rfl
  · obtain ⟨r, dx, a, b, rs, ts, ds, rfl, hR, oks, okd, hl, k⟩ := h
    have hF := fmP_of (outer := outer) (P := P) (w := w) (K := K) (mg := mg) (base := base) (f := T.m_told.f) (E := E) (H := H) scC_told hr hgd
    obtain ⟨t, x1, x2⟩ := dC_told T S hr hF
    refine ⟨t, x1 (), ?_⟩
    have hC := rdAt_cut hR
    refine x2 (partB (cut H (foot r a b ts)) H) _ H [.fz (.at r (rdD T.CR rs ds)), .un, .un, .un] (cut H (foot r a b ts)) _ { nx := fun _ => False, rt := fun s _ => ∃ told, Told ds told ∧ s = .fz (.tup (prs told)) } (St1.part (fun c o e => (cut_of e).1) rfl (.cons (.inr ⟨_, _, rfl, rfl, .at hC.rp⟩) (.cons (.inl rfl) (.cons (.inl rfl) (.cons (.inl rfl) .nil))))) ?_ (wr_told oks okd hl fun told h ρ => ⟨told, h, rfl⟩)
    refine ⟨fun _ _ _ _ _ q => (show False from q).elim, fun σ v s' H1 ρ Z S1 q => ?_, fun _ _ _ _ _ q => (show False from q).elim, fun _ _ _ _ _ q => (show False from q).elim, fun _ _ _ _ _ _ _ _ _ _ _ q => (show False from q).elim⟩
    obtain ⟨told, ht, rfl⟩ := q
    obtain ⟨Z', _, S2, rp⟩ := St1.thaw (tmp := []) S1 (.inl rfl)
    exact k told v H1 ht (fun c o e => S1.fx c o e) ⟨Z', rp, S2.sub, fun c o e => (S2.zn c o e).imp (fun e => (cut_of e).2) fun e => e.1⟩
end
end K01

set_option Elab.async false
set_option linter.all false
set_option maxRecDepth 100000
set_option maxHeartbeats 4000000
namespace K01
open PySem L2 PySem.Spec PyProof.Rows Pu TL
def spRInit (C : Addr) : Sp := fun vs H Q _ => ∃ (r dx : Addr), vs = [.ref r] ∧ H r = some (.ins C dx []) ∧
  ∀ a b H', H a = none → H b = none → RdAt C H' r dx a b [] [] [] → (∀ c o, H c = some o → c ≠ r → H' c = some o) → Q .non H'
section
variable {P : Program} {w : World} {K : PySem.W.Frag} {mg : Str → Option Value} {base : Heap}
theorem r_rinit (T : Txt K mg) : FnG P w K mg base 1 T.m_init.f T.m_init.fd ["self"] (spRInit T.CR) := by
  refine FnG.def T.m_init.T scC_init (fun vs H Q E h => ?_) (fun cdv A outer s H vs Q E hr hgd h => ?_)
  · obtain ⟨r, dx, rfl, _⟩ := h
    rfl
  · obtain ⟨r, dx, rfl, hr0, k⟩ := h
    refine ⟨_, pss_cons (ps_fld (pv 0) (pe_lst pa_nil) rfl) (pss_one (ps_fld (pv 0) (pe_lst pa_nil) rfl)), ?_⟩
    refine ⟨by decide, fun p hp => ⟨.ref r, rfl, r, T.CR, dx, [], rfl, ?_, T.clR, T.noR_rooms, by decide, ?_⟩⟩
    · rw [upd_ne (ne_of_none hr0 hp)]; exact hr0
    refine ⟨by decide, fun q hq => ⟨.ref r, rfl, r, T.CR, dx, [("own_rooms", .ref p)], rfl, ?_, T.clR, T.noR_doors, (show 1 < 1000 by decide), ?_⟩⟩
    · have nq : r ≠ q := fun e => by rw [← e, upd_same] at hq; cases hq
      rw [upd_ne nq, upd_same]; rfl
    have nr : r ≠ p := ne_of_none hr0 hp
    have nq : r ≠ q := fun e => by rw [← e, upd_same] at hq; cases hq
    have nqp : p ≠ q := fun e => by rw [← e, upd_ne nr.symm, upd_same] at hq; cases hq
    have ef : putF ("own_doors" : Str) (V.ref q) [("own_rooms", V.ref p)] = [(("own_rooms" : Str), V.ref p), (("own_doors" : Str), V.ref q)] := by simp [putF]
    have hq0 : H q = none := by
      rw [upd_ne nq.symm] at hq
      rw [upd_ne nqp.symm] at hq
      exact hq
    refine k p q _ hp hq0 ⟨?_, ?_, ?_, .nil, nqp⟩ fun c o e ne => ?_
    · rw [upd_same, ef]
    · rw [upd_ne nr.symm, upd_ne nqp, upd_ne nr.symm, upd_same]; rfl
    · rw [upd_ne nq.symm, upd_same]; rfl
    · rw [upd_ne ne, upd_ne (ne_of_none e hq0), upd_ne ne, upd_ne (ne_of_none e hp)]
      exact e
end
end K01

set_option Elab.async false
set_option linter.all false
set_option maxRecDepth 100000
set_option maxHeartbeats 4000000
namespace K01
open PySem L2 PySem.Spec PyProof.Rows Pu TL
def gFld (K : PySem.W.Frag) (ta : TE) (f : Str) : TG := fun v σ H Q => ta σ H fun x H2 => ∃ a C dx fs, x = .ref a ∧ H2 a = some (.ins C dx fs) ∧ Cls K C ∧ NoAttr K C f ∧ fs.length < 1000 ∧ Q σ (upd H2 a (.ins C dx (putF f v fs)))
theorem pg_fld {X : Cx} {o : Expr} {ta : TE} {f : Str} {pos : Pos} (ha : PE X o ta) : PG X (.Attribute o f pos) (gFld X.K ta f) := by
  refine ⟨fun pins s σ H v u Q I r h => ?_⟩
  refine PySem.W.kas_attr (thn (ha.run pins s σ H _ I h) fun ov s2 ⟨x, H2, I2, rx, a, C, dx, fs, ex, ea, c, n, l, q2⟩ => ?_)
  subst ex
  obtain rfl : ov = Value.ref a := rx
  exact setattr_ok I2 ea c n l r fun s3 I3 => ⟨σ, _, I3, q2⟩
theorem rdAt_upd {C : Addr} {H : Hp} {r dx a b x : Addr} {rs : List Str} {ts : List Addr} {ds : List (Str × Str)} {o : HO} {C' d' : Addr} {fs : List (Str × V)} (h : RdAt C H r dx a b rs ts ds) (hx : H x = some (.ins C' d' fs)) (ne : r ≠ x) : RdAt C (upd H x o) r dx a b rs ts ds :=
  ⟨by rw [upd_ne ne]; exact h.ob, by rw [upd_ne (ne_of h.ro hx (by intro z; cases z))]; exact h.ro, by rw [upd_ne (ne_of h.do_ hx (by intro z; cases z))]; exact h.do_, pd_imp h.pa fun t d _ q => by rw [upd_ne (ne_of q hx (by intro z; cases z))]; exact q, h.ab⟩
theorem line_room {rs : List Str} {ds : List (Str × Str)} {i : Nat} {l : Str} (e : (rs.map roomLine ++ ds.map fun d => doorLine d.1 d.2)[i]? = some l) (h : i < rs.length) : ∃ nm, rs[i]? = some nm ∧ l = roomLine nm := by
  rw [List.getElem?_append_left (by rw [List.length_map]; exact h), List.getElem?_map] at e
  cases e2 : rs[i]? with
  | none => rw [e2] at e; cases e
  | some nm => rw [e2] at e; exact ⟨nm, rfl, (Option.some.inj e).symm⟩
theorem line_door {rs : List Str} {ds : List (Str × Str)} {i : Nat} {l : Str} (e : (rs.map roomLine ++ ds.map fun d => doorLine d.1 d.2)[i]? = some l) (h : rs.length ≤ i) : ∃ d, ds[i - rs.length]? = some d ∧ l = doorLine d.1 d.2 := by
  rw [List.getElem?_append_right (by rw [List.length_map]; exact h), List.length_map, List.getElem?_map] at e
  cases e2 : ds[i - rs.length]? with
  | none => rw [e2] at e; cases e
  | some nm => rw [e2] at e; exact ⟨nm, rfl, (Option.some.inj e).symm⟩
theorem take_next {α : Type} {l : List α} {i : Nat} {x : α} (e : l[i]? = some x) : l.take (i + 1) = l.take i ++ [x] := by rw [List.take_add_one, e]; rfl
theorem nodup_take {α : Type} {l : List α} {i : Nat} {x : α} (h : l.Nodup) (e : l[i]? = some x) : x ∉ l.take i := fun m => by
  have h1 : (l.take (i + 1)).Nodup := h.sublist (List.take_sublist _ _)
  rw [take_next e] at h1
  exact (List.nodup_append.mp h1).2.2 x m x (List.mem_singleton.mpr rfl) rfl
theorem rd_off {H H' : Hp} {t : Addr} {vs : List V} (k : ∀ c u, (∀ C d fs, u ≠ .ins C d fs) → H c = some u → H' c = some u) (h : Rd H t (.tup vs)) : Rd H' t (.tup vs) := by
  rcases h with h | ⟨o, h⟩
  · exact .inl (k _ _ (fun _ _ _ z => by cases z) h)
  · exact .inr ⟨o, k _ _ (fun _ _ _ z => by cases z) h⟩
def newOf (H H' : Hp) : Hp := grow (fun _ => none) H H'
theorem pairs_off {K : PySem.W.Frag} {H H' : Hp} {told : List (Str × Str)} {v : V} (k : ∀ c u, (∀ C d fs, u ≠ .ins C d fs) → H c = some u → H' c = some u) (h : Rp K H v (.tup (prs told))) : Rp K H' v (.tup (prs told)) := by
  cases h with
  | tup h rl =>
  refine .tup (rd_off k h) ?_
  clear h
  rename_i vs
  induction told generalizing vs with
  | nil => cases rl with | nil => exact .nil
  | cons d told ih =>
    cases rl with
    | cons q rl =>
    refine .cons ?_ (ih rl)
    cases q with
    | tup h r2 =>
    refine .tup (rd_off k h) ?_
    cases r2 with
    | cons a1 r2 =>
    cases r2 with
    | cons a2 r2 =>
    cases r2 with
    | nil =>
    cases a1 with
    | str _ =>
    cases a2 with
    | str _ => exact .cons (.str _) (.cons (.str _) .nil)
def LinesOk (text : Str) (rs : List Str) (ds : List (Str × Str)) : Prop := Txt.split text "\n" = rs.map roomLine ++ ds.map (fun d => doorLine d.1 d.2) ∧ text.length + 2 ≤ sizeLine ∧ (∀ x ∈ rs, OkName x) ∧ rs.Nodup ∧ rs.length ≤ 16 ∧ ds.length ≤ 60 ∧
  (∀ d ∈ ds, d.1 ∈ rs ∧ d.2 ∈ rs ∧ d.1 ≠ d.2) ∧ ds.Nodup ∧ ∀ d ∈ ds, (d.2, d.1) ∉ ds
def spHInit (K : PySem.W.Frag) (C : Addr) : Sp := fun vs H Q _ => ∃ (x dx : Addr) (text : Str) (rs : List Str) (ds : List (Str × Str)), vs = [.ref x, .str text] ∧ H x = some (.ins C dx []) ∧ LinesOk text rs ds ∧
  ∀ told v1 v2 H', Told ds told → H' x = some (.ins C dx [("own_text", .str text), ("own_rooms", v1), ("own_doors", v2)]) → Rp K (newOf H H') v1 (.ttp (rs.map .str)) → Rp K (newOf H H') v2 (.tup (prs told)) → (∀ c o, c ≠ x → H c = some o → H' c = some o) → Q .non H'
section
variable {P : Program} {w : World} {K : PySem.W.Frag} {mg : Str → Option Value} {base : Heap}
theorem r_hinit (T : Txt K mg) (S : Sps) (hS : S.is_name = spName) (kp_is_name : FnG P w K mg base 1 T.f_is_name.f T.f_is_name.fd ["value"] (spL K [.fz] S.is_name)) : FnG P w K mg base 5 T.h_init.f T.h_init.fd ["self", "text"] (spHInit K T.C) := by
  refine FnG.def T.h_init.T scC_house (fun vs H Q E h => ?_) (fun cdv A outer s H vs Q E hr hgd h => ?_)
  · obtain ⟨x, dx, text, rs, ds, rfl, _⟩ := h
    rfl
  · obtain ⟨x, dx, text, rs, ds, rfl, hx0, ⟨hsp, hts, oks, ndr, lr, ld, okd, ndd, nds⟩, k⟩ := h
    have hF := fmP_of (outer := outer) (P := P) (w := w) (K := K) (mg := mg) (base := base) (f := T.h_init.f) (E := E) (H := H) scC_house hr hgd
    refine ⟨_, pss_cons (ps_if (pt_not (pt_val (pe_callB (cr_isTyK (T := "str")) (by rfl) T.n_isinstance (by rfl) (pa_cons (pv 1) (pa_cons (pe_bltn (v := V.ty "str") (by rfl) T.n_str (by rfl) rfl (by decide) (by decide)) pa_nil)) (by decide) (by decide))) ) pss_never pss_nil)
      (pss_cons (ps_set (i := 2) hF.nd rfl ?_ (pg_make0 T.mkR (r_rinit T) (hr.mono (by decide)) hgd (by rfl) T.mR T.bm_init hF.tk))
      (pss_cons (ps_for hF.po hF.calm (pi_enum (by rfl) T.n_enumerate (pa_cons (pe_split (pv 1) pe_str) pa_nil)) (pg_tup hF.calm (pgs_cons (pg_name (i := 3) hF.nd rfl ?_) (pgs_cons (pg_name (i := 4) hF.nd rfl ?_) pgs_nil))) (pss_one (ps_if (pt_not (pt_val (pg_meth (pv 2) T.clR T.mt_takes (r_takes T S hS kp_is_name) (hr.mono (by decide)) hgd T.bm_takes hF.tk (pa_cons (pv 4) pa_nil)))) pss_never pss_nil)))
      (pss_cons (ps_fld (pv 0) (pv 1) rfl)
      (pss_one (ps_asg (pe_tup (pa_cons (pe_callTy call_told (by rfl) T.n_tuple (by rfl) (pa_cons (pe_fld (pv 2) rfl) pa_nil)) (pa_cons (pg_meth0 (pv 2) T.clR T.mt_told (r_told T S) (hr.mono (by decide)) hgd T.bm_told hF.tk) pa_nil))) (pg_tup hF.calm (pgs_cons (pg_fld (pv 0)) (pgs_cons (pg_fld (pv 0)) pgs_nil)))))))), ?_⟩
    · first | exact Or.inl rfl | exact Or.inr (Or.inl rfl) | rfl
    · first | exact Or.inl rfl | exact Or.inr (Or.inl rfl) | rfl
    · first | exact Or.inl rfl | exact Or.inr (Or.inl rfl) | rfl
    refine ⟨.str text, rfl, .str text, .str text, "str", true, rfl, .str _, rfl, rfl, true, rfl, ?_⟩
    refine iteF ?_
    refine fun r dr hr1 hd1 hne => ⟨r, dr, rfl, upd_same, fun a b H1 ha0 hb0 hR1 k1 => ⟨rfl, ?_⟩⟩
    have hrr : ∀ c o, H c = some o → c ≠ r := fun c o e => ne_of_none e hr1
    have hdd : ∀ c o, H c = some o → c ≠ dr := fun c o e => ne_of_none e hd1
    have kH1 : ∀ c o, H c = some o → H1 c = some o := fun c o e => k1 c o (by rw [upd_ne (hrr c o e), upd_ne (hdd c o e)]; exact e) (hrr c o e)
    have ha : H a = none := by
      have na : a ≠ r := fun e => by rw [e, upd_same] at ha0; cases ha0
      have nd : a ≠ dr := fun e => by rw [e, upd_ne hne, upd_same] at ha0; cases ha0
      rw [upd_ne na, upd_ne nd] at ha0; exact ha0
    have hb : H b = none := by
      have na : b ≠ r := fun e => by rw [e, upd_same] at hb0; cases hb0
      have nd : b ≠ dr := fun e => by rw [e, upd_ne hne, upd_same] at hb0; cases hb0
      rw [upd_ne na, upd_ne nd] at hb0; exact hb0
    refine ⟨.str text, rfl, ⟨text, rfl⟩, text, "\n", rfl, rfl, by decide +kernel, hts, fun p hp => ⟨p, _, rfl, .inl (.inl upd_same), ?_⟩⟩
    have hpH : H p = none := by
      cases e : H p with
      | none => rfl
      | some o => rw [kH1 p o e] at hp; cases hp
    have hlen : (Txt.split text "\n").length = rs.length + ds.length := by rw [hsp, List.length_append, List.length_map, List.length_map]
    refine ⟨fun i m σ H' => σ[0]? = some (some (.ref x)) ∧ σ[1]? = some (some (.str text)) ∧ σ[2]? = some (some (.ref r)) ∧ σ.length = 5 ∧ (∃ ts, RdAt T.CR H' r dr a b (rs.take i) ts (ds.take (i - rs.length)) ∧ ∀ t ∈ ts, H t = none) ∧ H' p = some (.lst ((Txt.split text "\n").map .str)) ∧ (∀ c o, H c = some o → H' c = some o) ∧ i ≤ rs.length + ds.length ∧ m = rs.length + ds.length - i, ⟨_, rfl, rfl, rfl, rfl, ⟨[], ?_, fun _ m => by cases m⟩, upd_same, fun c o e => ?_, Nat.zero_le _, rfl⟩, ?_⟩
    · have := hR1.up (H' := upd H1 p (.lst ((Txt.split text "\n").map .str))) (fun c o e => by rw [upd_ne (ne_of_none e hp)]; exact e)
      simpa using this
    · rw [upd_ne (ne_of_none (kH1 _ _ e) hp)]; exact kH1 _ _ e
    rintro i m σ H2 ⟨s0, s1, s2, sl, ⟨ts, hR2, hts0⟩, hp2, kk, hi, rfl⟩
    by_cases hlt : i < rs.length + ds.length
    · refine .inr ⟨?_, fun σ' H' => σ'[0]? = some (some (.ref x)) ∧ σ'[1]? = some (some (.str text)) ∧ σ'[2]? = some (some (.ref r)) ∧ σ'.length = 5 ∧ (∃ ts, RdAt T.CR H' r dr a b (rs.take (i + 1)) ts (ds.take (i + 1 - rs.length)) ∧ ∀ t ∈ ts, H t = none) ∧ H' p = some (.lst ((Txt.split text "\n").map .str)) ∧ (∀ c o, H c = some o → H' c = some o), fun σ' H' q => ⟨rs.length + ds.length - (i + 1), by omega, q.1, q.2.1, q.2.2.1, q.2.2.2.1, q.2.2.2.2.1, q.2.2.2.2.2.1, q.2.2.2.2.2.2, hlt, rfl⟩, fun v H3 y => ?_⟩
      · have : i < (Txt.split text "\n").length := by rw [hlen]; exact hlt
        exact ⟨_, .str ((Txt.split text "\n")[i]), .inl (.inl hp2), by simp [this]⟩
      obtain ⟨tt, yv, rfl, htt, rfl, hy⟩ := y
      have hy := hy _ (.inl (.inl hp2))
      rw [List.getElem?_map] at hy
      obtain ⟨line, el, rfl⟩ : ∃ line, (Txt.split text "\n")[i]? = some line ∧ yv = .str line := by
        cases e : (Txt.split text "\n")[i]? with
        | none => rw [e] at hy; cases hy
        | some l => rw [e] at hy; exact ⟨l, rfl, (Option.some.inj hy).symm⟩
      rw [hsp] at el
      have k3 : ∀ c o, H2 c = some o → upd H2 tt (.tup [.int i, .str line]) c = some o := fun c o e => by rw [upd_ne (ne_of_none e htt)]; exact e
      have hR3 := hR2.up k3
      have hp3 := k3 _ _ hp2
      have pa : p ≠ a := fun e => by
        have := hR1.ro
        rw [← e, hp] at this
        cases this
      have pb : p ≠ b := fun e => by
        have := hR1.do_
        rw [← e, hp] at this
        cases this
      refine ⟨tt, _, rfl, .inl (.inl upd_same), rfl, .int i, _, rfl, .str line, _, rfl, rfl, ?_⟩
      have t0 : ((σ.set 3 (some (.int i))).set 4 (some (.str line)))[0]? = some (some (.ref x)) := by rw [List.getElem?_set_ne (by decide), List.getElem?_set_ne (by decide)]; exact s0
      have t1 : ((σ.set 3 (some (.int i))).set 4 (some (.str line)))[1]? = some (some (.str text)) := by rw [List.getElem?_set_ne (by decide), List.getElem?_set_ne (by decide)]; exact s1
      have t2 : ((σ.set 3 (some (.int i))).set 4 (some (.str line)))[2]? = some (some (.ref r)) := by rw [List.getElem?_set_ne (by decide), List.getElem?_set_ne (by decide)]; exact s2
      have t4 : ((σ.set 3 (some (.int i))).set 4 (some (.str line)))[4]? = some (some (.str line)) := by rw [List.getElem?_set_self (by rw [List.length_set, sl]; decide)]
      have tl5 : ((σ.set 3 (some (.int i))).set 4 (some (.str line))).length = 5 := by rw [List.length_set, List.length_set, sl]
      refine ⟨.ref r, t2, r, dr, _, rfl, hR3.ob, rfl, .str line, t4, rfl, ?_⟩
      refine ⟨r, dr, a, b, rs.take i, ts, ds.take (i - rs.length), line, rfl, hR3, fun z mz => oks z (List.mem_of_mem_take mz), fun d md => ⟨oks _ (okd d (List.mem_of_mem_take md)).1, oks _ (okd d (List.mem_of_mem_take md)).2.1⟩, ?_⟩
      by_cases hr' : i < rs.length
      · obtain ⟨nm, en, rfl⟩ := line_room el hr'
        have e0 : i - rs.length = 0 := by omega
        have e1 : i + 1 - rs.length = 0 := by omega
        rw [e0, List.take_zero] at hR3
        cases ts with
        | cons _ _ => cases hR3.pa
        | nil =>
        refine .inl ⟨nm, rfl, oks _ (List.mem_of_getElem? en), by rw [List.length_take]; omega, nodup_take ndr en, rfl, by rw [e0, List.take_zero], fun H4 hR4 k4 => ⟨true, rfl, iteF ⟨t0, t1, t2, tl5, ⟨[], ?_, fun _ m => by cases m⟩, k4 _ _ hp3 pa, fun c o e => k4 c o (k3 c o (kk c o e)) (ne_of_none e ha)⟩⟩⟩
        rw [take_next en, e1, List.take_zero]
        exact hR4
      · obtain ⟨d, ed, rfl⟩ := line_door el (by omega)
        have er : rs.take i = rs := List.take_of_length_le (by omega)
        have er' : rs.take (i + 1) = rs := List.take_of_length_le (by omega)
        have e1 : i + 1 - rs.length = (i - rs.length) + 1 := by omega
        have hd := okd d (List.mem_of_getElem? ed)
        refine .inr ⟨d.1, d.2, rfl, hd.2.2, by rw [er]; exact hd.1, by rw [er]; exact hd.2.1, nodup_take ndd ed, fun m => nds d (List.mem_of_getElem? ed) (List.mem_of_mem_take m), by rw [List.length_take]; omega, by rw [er]; exact lr, fun H4 t ht0 hR4 k4 => ⟨true, rfl, iteF ⟨t0, t1, t2, tl5, ⟨ts ++ [t], ?_, fun u m => ?_⟩, k4 _ _ hp3 pb, fun c o e => k4 c o (k3 c o (kk c o e)) (ne_of_none e hb)⟩⟩⟩
        · rw [er', e1, take_next ed]
          rw [er] at hR4
          exact hR4
        · rcases List.mem_append.mp m with m | m
          · exact hts0 u m
          · rw [List.mem_singleton.mp m]
            cases e : H t with
            | none => rfl
            | some o => rw [k3 t o (kk t o e)] at ht0; cases ht0
    · have ei : i = rs.length + ds.length := by omega
      have e1 : rs.take i = rs := List.take_of_length_le (by omega)
      have e2 : ds.take (i - rs.length) = ds := List.take_of_length_le (by omega)
      rw [e1, e2] at hR2
      refine .inl ⟨⟨_, .inl (.inl hp2), by rw [List.length_map, hlen]; omega⟩, ?_⟩
      refine ⟨.str text, s1, .ref x, s0, x, T.C, dx, [], rfl, kk _ _ hx0, T.cl, T.noH_text, by decide, ?_⟩
      have nrx : r ≠ x := fun e => by rw [← e, hr1] at hx0; cases hx0
      have hR4 := rdAt_upd (o := .ins T.C dx (putF "own_text" (.str text) [])) hR2 (kk _ _ hx0) nrx
      refine ⟨.ref r, s2, r, T.CR, dr, _, .ref a, rfl, hR4.ob, T.clR, T.noR_rooms, rfl, a, _, rfl, .inl (.inl hR4.ro), fun l o hl ho => ?_⟩
      have k5 : ∀ c u, upd H2 x (.ins T.C dx (putF "own_text" (.str text) [])) c = some u → upd (upd H2 x (.ins T.C dx (putF "own_text" (.str text) []))) l (.frz o (.tup (rs.map .str))) c = some u := fun c u e => by rw [upd_ne (ne_of_none e hl)]; exact e
      have hR5 := hR4.up k5
      refine ⟨.ref r, s2, r, dr, _, rfl, hR5.ob, rfl, ?_⟩
      refine ⟨r, dr, a, b, rs, ts, ds, rfl, hR5, oks, fun d md => ⟨(okd d md).1, (okd d md).2.1⟩, ld, fun told v H6 ht k6 rp => ?_⟩
      refine ⟨Nat.le_trans (m := 10) (by show 2 ≤ 10; decide) (by decide), fun q hq => ?_⟩
      have x5 := k6 _ _ (k5 x _ upd_same)
      have l6 := k6 l _ upd_same
      have nqx : x ≠ q := ne_of_none x5 hq
      have nql : l ≠ q := ne_of_none l6 hq
      have nlx : l ≠ x := fun e => by rw [e, upd_same] at hl; cases hl
      refine ⟨q, _, rfl, .inl (.inl upd_same), rfl, .ref l, _, rfl, ⟨.ref x, s0, x, T.C, dx, _, rfl, by rw [upd_ne nqx]; exact x5, T.cl, T.noH_rooms, (by simp [putF]), v, _, rfl, ⟨.ref x, s0, x, T.C, dx, _, rfl, upd_same, T.cl, T.noH_doors, (by simp [putF]), ?_⟩⟩⟩
      have ef : putF ("own_doors" : Str) v (putF ("own_rooms" : Str) (V.ref l) (putF ("own_text" : Str) (V.str text) [])) = [(("own_text" : Str), V.str text), (("own_rooms" : Str), V.ref l), (("own_doors" : Str), v)] := by simp [putF]
      refine ⟨rfl, k told (.ref l) v _ ht ?_ ?_ ?_ ?_⟩
      · rw [upd_same, ef]
      · refine .ttp (o := o) ?_ ho (RpL.strs rs)
        have hl0 : H l = none := by
          cases e : H l with
          | none => rfl
          | some u =>
            by_cases el : l = x
            · exact absurd el nlx
            · rw [upd_ne el, kk l u e] at hl; cases hl
        unfold newOf
        rw [grow_new rfl hl0, upd_ne nlx, upd_ne nlx, upd_ne nql]
        exact l6
      · obtain ⟨Z', rp, lz, nz⟩ := rp
        refine pairs_off (fun c u nu e => ?_) rp
        have e6 := lz c u e
        have ncx : c ≠ x := fun ec => by
          rw [ec, x5] at e6
          exact nu _ _ _ (Option.some.inj e6).symm
        have hc0 : H c = none := by
          rcases nz c u e with f | f
          · rcases f with rfl | rfl | rfl | f
            · exact hr1
            · exact ha
            · exact hb
            · exact hts0 c f
          · cases e0 : H c with
            | none => rfl
            | some u0 =>
              rw [k5 c u0 (by rw [upd_ne ncx]; exact kk c u0 e0)] at f
              cases f
        unfold newOf
        rw [grow_new rfl hc0, upd_ne ncx, upd_ne ncx, upd_ne (ne_of_none e6 hq)]
        exact e6
      · intro c u ne e
        rw [upd_ne ne, upd_ne ne]
        have := k6 c u (k5 c u (by rw [upd_ne ne]; exact kk c u e))
        rw [upd_ne (ne_of_none this hq)]
        exact this
end
end K01

set_option Elab.async false
set_option linter.all false
set_option maxRecDepth 100000
set_option maxHeartbeats 4000000
namespace K01
open PySem L2 PySem.Spec PyProof.Rows Pu TL
def houD (C : Nat) (text : Str) (rs : List Str) (told : List (Str × Str)) : D := .ins C ["own_text", "own_rooms", "own_doors"] [.str text, .ttp (rs.map .str), .tup (prs told)]
def spHouse (C : Nat) : DSp := fun ds Q _ => ∃ text rs doors, ds = [.str text] ∧ LinesOk text rs doors ∧ ∀ told, Told doors told → Q (.fz (houD C text rs told)) [.non]
theorem house_ok {K : PySem.W.Frag} {mg : Str → Option Value} (T : Txt K mg) (S : Sps) (hS : S.is_name = spName) (kp : ∀ {P : Program} {w : World} {base : Heap}, FnG P w K mg base 1 T.f_is_name.f T.f_is_name.fd ["value"] (spL K [.fz] S.is_name)) : HouseOk K mg (spHouse T.C) := by
  intro F hFK hmg hr e w p pos he hg h1 h2
  obtain ⟨t, a1, a2⟩ := he
  refine ⟨_, fun i => pg_make (C := T.C) (f := T.h_init.f) (fd := T.h_init.fd) (ps := ["self", "text"]) (k := 5) (n := 1) (sp := spHInit K T.C) (W := F.W) (by rw [F.hK i, hFK]; exact T.mkH) (by rw [F.hK i, hFK, hmg i]; exact r_hinit T S hS kp) (hr i) (F.gd i) (hg i) (by rw [hmg i]; exact T.mH) T.bh_init (F.tk i) (pa_cons (a1 i) pa_nil (h1 i)) (by decide +kernel) (h1 i) (h2 i), LE.of fun B σ H ρ Z Q Q' E S X hw q => ?_⟩
  refine a2 B σ H ρ Z _ _ E S X hw fun v s H1 ρ1 Z1 S1 le1 hq => ?_
  obtain ⟨d, hs, hq⟩ := fr_of hq
  obtain ⟨Z1', le1', S2, r⟩ := S1.thaw1 hs
  obtain ⟨text, rs, doors, e1, lok, hq⟩ : spHouse T.C [d] (fun s outs => Q' s (backD ρ1 [Ar.v d] outs)) (fun C d' outs => E C d' (backD ρ1 [Ar.v d] outs)) := hq
  obtain rfl : d = .str text := by injection e1
  cases r with
  | str _ =>
  refine ⟨rfl, fun y dx hy hdx hne => ⟨y, dx, text, rs, doors, rfl, upd_same, lok, fun told v1 v2 H' ht hx r1 r2 kk => ⟨rfl, ?_⟩⟩⟩
  have kH : ∀ c o, H1 c = some o → H' c = some o := fun c o e => kk c o (ne_of_none e hy) (by rw [upd_ne (ne_of_none e hy), upd_ne (ne_of_none e hdx)]; exact e)
  obtain ⟨S3, le3⟩ := S2.grown kH
  have nz : ∀ c, H1 c = none → Z1' c = none := fun c e => (S2.fresh e).1
  have kn : ∀ c o, newOf (upd (upd H1 dx (.own y)) y (.ins T.C dx [])) H' c = some o → grow Z1' H1 H' c = some o := fun c o e => by
    unfold newOf at e
    rcases grow_of e with e | ⟨_, h0, e⟩
    · cases e
    · have h1 : H1 c = none := by
        have n1 : c ≠ y := fun ec => by rw [ec, upd_same] at h0; cases h0
        have n2 : c ≠ dx := fun ec => by rw [ec, upd_ne hne, upd_same] at h0; cases h0
        rw [upd_ne n1, upd_ne n2] at h0; exact h0
      rw [grow_new (nz c h1) h1]; exact e
  refine q (.ref y) _ H' ρ1 _ (S3.have (.ins (fs := [("own_text", .str text), ("own_rooms", v1), ("own_doors", v2)]) (by rw [grow_new (nz y hy) hy]; exact hx) rfl (.cons (.str _) (.cons (Rp.le kn _ _ (by rw [hFK]; exact r1)) (.cons (Rp.le kn _ _ (by rw [hFK]; exact r2)) .nil))))) (hq told ht)
end K01

set_option Elab.async false
set_option linter.all false
set_option maxRecDepth 100000
set_option maxHeartbeats 1000000
namespace K01
open PySem L2 PySem.Spec PyProof.Rows Pu TL
def potD (a b c : Int) : D := .lst [.int a, .int b, .int c]
def PotOk (k : Nat) (d : D) : Prop := ∃ a b c : Int, d = potD a b c ∧ 0 ≤ a ∧ 0 ≤ b ∧ b < 2 ^ 62 ∧ 0 ≤ c ∧ c ≤ k
theorem PotOk.le {k k' : Nat} {d : D} (h : PotOk k d) (l : k ≤ k') : PotOk k' d := by
  obtain ⟨a, b, c, e, h1, h2, h3, h4, h5⟩ := h
  exact ⟨a, b, c, e, h1, h2, h3, h4, by omega⟩
def spTake : DSp := fun ds Q _ => ∃ p k u, ds = [p, .int u] ∧ PotOk k p ∧ k < 2 ^ 30 ∧ 0 < u ∧ u < 2 ^ 30 ∧ ∀ r p', 0 ≤ r → r < u → PotOk (k + 1) p' → Q (.fz (.int r)) [p', .non]
theorem prime_at {c : Int} : ∃ p : Int, atI [D.int 2147483647, D.int 2147483629, D.int 2147483587, D.int 2147483579, D.int 2147483563] (c % 5) = some (.int p) ∧ 0 < p ∧ p < 2 ^ 31 := by
  have h1 : 0 ≤ c % 5 := Int.emod_nonneg _ (by decide)
  have h2 : c % 5 < 5 := Int.emod_lt_of_pos _ (by decide)
  have : c % 5 = 0 ∨ c % 5 = 1 ∨ c % 5 = 2 ∨ c % 5 = 3 ∨ c % 5 = 4 := by omega
  rcases this with e | e | e | e | e <;> rw [e] <;> exact ⟨_, rfl, by decide, by decide⟩
theorem bits_le {x : Int} {m : Nat} (h : 0 ≤ x) (l : x < 2 ^ m) : Builtin.Int.intBits x ≤ m := by
  unfold Builtin.Int.intBits
  split
  · exact Nat.zero_le _
  · rename_i hx
    have hx : x ≠ 0 := by simpa using hx
    have : x.natAbs < 2 ^ m := by
      have : ((x.natAbs : Nat) : Int) < ((2 ^ m : Nat) : Int) := by rw [Int.natAbs_of_nonneg h]; exact_mod_cast l
      exact_mod_cast this
    exact Nat.succ_le_of_lt ((Nat.log2_lt (by omega)).mpr this)
theorem kp__law_take {S : Sps} {C : Nat} : keeps [.io, .fz] 5 spTake (w__law_take S C) := by
  refine keeps_i fun ds Q E hs hl K hn hr => ?_
  obtain ⟨p, k, u, rfl, ⟨a, b, c, rfl, a0, b0, b1, c0, c1⟩, hk, u0, u1, q⟩ := hs
  unfold w__law_take potD
  refine seq_i fun N hN => ifS_i fun A B hA hB => ?_
  simp [kIx.kIxS, at0, at1, at2]
  by_cases ha : 0 < a
  · simp [ha]
    refine hA _ ?_
    refine seq_i fun N hN => ?_
    simp [kIx.kIxS, at0, at1, at2]
    refine ⟨u0, hN _ ?_⟩
    refine seq_i fun N hN => ?_
    simp [kIx.kIxS, at0, at1, at2, ixN]
    refine ⟨⟨u0, u1⟩, hN _ ?_⟩
    simp
    refine hr _ _ ?_
    simp
    exact q _ _ (Int.emod_nonneg _ (by omega)) (Int.emod_lt_of_pos _ u0) ⟨_, _, _, rfl, Int.ediv_nonneg a0 (by omega), b0, b1, c0, by omega⟩
  · obtain ⟨c', hc'⟩ : ∃ c', c' = c + 1 := ⟨_, rfl⟩
    simp [ha]
    refine hB _ ?_
    simp
    refine hN _ ?_
    refine seq_i fun N hN => ?_
    simp [kIx.kIxS, at0, at1, at2, ixN]
    rw [← hc']
    refine hN _ ?_
    refine seq_i fun N hN => ?_
    obtain ⟨pr, e, p0, p1⟩ := prime_at (c := c')
    simp [kIx.kIxS, at0, at1, at2, ixN, e]
    refine hN _ ?_
    refine seq_i fun N hN => ?_
    simp [kIx.kIxS, at0, at1, at2, ixN, e]
    have hc : 0 ≤ c' ∧ c' ≤ 2 ^ 31 := by omega
    have hm : 0 ≤ c' * c' ∧ c' * c' ≤ 2 ^ 31 * 2 ^ 31 := ⟨Int.mul_nonneg hc.1 hc.1, Int.mul_le_mul hc.2 hc.2 hc.1 (by decide)⟩
    have hx : 0 ≤ b + 114119 * c' * c' + 4505 ∧ b + 114119 * c' * c' + 4505 < 2 ^ 100 := by
      rw [Int.mul_assoc]
      omega
    refine ⟨.inl ⟨by decide, by decide⟩, .inr ⟨by omega, by omega⟩, ⟨by decide, ?_⟩, p0, hN _ ?_⟩
    · have := bits_le hx.1 hx.2
      omega
    have r0 := Int.emod_nonneg ((b + 114119 * c' * c' + 4505) ^ 3) (show pr ≠ 0 by omega)
    have r1 := Int.emod_lt_of_pos ((b + 114119 * c' * c' + 4505) ^ 3) p0
    revert r0 r1
    generalize (b + 114119 * c' * c' + 4505) ^ 3 % pr = x
    intro r0 r1
    refine seq_i fun N hN => ?_
    simp [kIx.kIxS, at0, at1, at2]
    refine ⟨.inl ⟨by decide, by decide⟩, .inl ⟨by omega, by omega⟩, hN _ ?_⟩
    generalize x * (x % 24317 + 2713 * c') % 2305843009213693907 = y
    simp
    refine ⟨⟨by decide, by decide⟩, u0, hr _ _ ?_⟩
    simp
    exact q _ _ (Int.emod_nonneg _ (by omega)) (Int.emod_lt_of_pos _ u0) ⟨_, _, _, rfl, a0, b0, b1, by omega, by omega⟩
end K01

set_option Elab.async false
set_option linter.all false
set_option maxRecDepth 100000
set_option maxHeartbeats 1000000
namespace K01
open PySem L2 PySem.Spec PyProof.Rows Pu TL
def RsOk (rs : List Str) : Prop := (∀ x ∈ rs, OkName x) ∧ rs.Nodup ∧ 1 ≤ rs.length ∧ rs.length ≤ 16
def Hou (C : Nat) (rs : List Str) (A : Nat → Nat → Bool) (d : D) : Prop := ∃ (text : Str) (told : List (Str × Str)) (tq : List (Nat × Nat)), d = houD C text rs told ∧ told = tq.map (fun p : Nat × Nat => (nm rs p.1, nm rs p.2)) ∧ (∀ p ∈ tq, p.1 < rs.length ∧ p.2 < rs.length ∧ p.1 ≠ p.2) ∧ (∀ i j, A i j = true ↔ (i, j) ∈ tq ∨ (j, i) ∈ tq)
def lotD (rs : List Str) (p : Nat → Bool) : D := .tup ((pick rs p).map D.str)
def lotsD (rs : List Str) (lot : Nat → Nat → Bool) (m : Nat) : D := .tup ((List.range m).map fun k => lotD rs (lot k))
def full : Nat → Bool := fun _ => true
def nearD (n : Nat) (A : Nat → Nat → Bool) : D := .lst ((List.range n).map fun i => .int (mk n (A i)))
theorem strs_py (l : List Str) : ∀ d ∈ l.map D.str, d.py.depth = 0 := by
  intro d m
  obtain ⟨x, _, rfl⟩ := List.mem_map.mp m
  rfl
theorem good_tupS {l : List Str} (h : ∀ x ∈ l, OkName x) : (D.tup (l.map D.str)).good = true := good_tup (n := 0) (fun d m => by
  obtain ⟨x, mx, rfl⟩ := List.mem_map.mp m
  exact (h x mx).ok) fun d m => by rw [strs_py l d m]; exact Nat.le_refl _
theorem plain_tupS {l : List Str} (h : ∀ x ∈ l, OkName x) : (D.tup (l.map D.str)).plain = true := good_plain (good_tupS h)
theorem good_lot {rs : List Str} (ok : RsOk rs) (p : Nat → Bool) : (lotD rs p).good = true := good_tupS fun x m => ok.1 x (pick_sub m)
theorem len_sz {n : Nat} (h : n ≤ 16) : n ≤ sizeLine := Nat.le_trans h (by decide)
def spCheck (C : Nat) : DSp := fun ds Q _ => ∃ rs A h, ds = [h] ∧ Hou C rs A h ∧ Q (.fz .non) [.non]
def spBitsOf (C : Nat) : DSp := fun ds Q _ => ∃ rs A h p, ds = [h, lotD rs p] ∧ Hou C rs A h ∧ RsOk rs ∧ Q (.fz (.int (mk rs.length p : Nat))) [.non, .non]
def spLotOf (C : Nat) : DSp := fun ds Q _ => ∃ rs A h p, ds = [h, .int (mk rs.length p : Nat)] ∧ Hou C rs A h ∧ RsOk rs ∧ Q (.fz (lotD rs p)) [.non, .non]
def spNearOf (C : Nat) : DSp := fun ds Q _ => ∃ rs A h, ds = [h] ∧ Hou C rs A h ∧ RsOk rs ∧ Q (.fz (nearD rs.length A)) [.non]
theorem beq_same {d : D} (h : d.nob = true) : beq d d = true := (beq_iff _ _ h h).mpr rfl
theorem kb_tup : kitB "tuple" "tuple" = some true := by decide +kernel
theorem kb_str : kitB "str" "str" = some true := by decide +kernel
theorem kp_check_house {S : Sps} {C : Nat} : keeps [.fz] 1 (spCheck C) (w_check_house S C) := by
  refine keeps_i fun ds Q E hs hl K hn hr => ?_
  obtain ⟨rs, A, h, rfl, ⟨text, told, tq, rfl, e1, e2, e3⟩, q⟩ := hs
  unfold w_check_house houD
  simp
  refine hn _ ?_
  simpa using q
theorem num_items (rs : List Str) : numbered 0 (rs.map D.str) = (List.range rs.length).map fun (i : Nat) => D.tup [.int i, .str (nm rs i)] := by
  rw [numbered_eq, List.length_map]
  refine List.map_congr_left fun i m => ?_
  rw [List.getElem?_map, nm_at (List.mem_range.mp m)]
  simp
theorem sh1 {i : Nat} (h : i ≤ 16) : CPow 1 (i : Int) := ⟨by omega, by omega, by decide⟩
theorem kp_bits_of {S : Sps} {C : Nat} : keeps [.fz, .fz] 4 (spBitsOf C) (w_bits_of S C) := by
  refine keeps_i fun ds Q E hs hl K hn hr => ?_
  obtain ⟨rs, A, h, p, rfl, ⟨text, told, tq, rfl, e1, e2, e3⟩, ok, q⟩ := hs
  have gl := good_lot ok p
  unfold w_bits_of houD lotD at *
  simp only [wRet, wB, rsC, rE, rsN]
  refine lcB (List.range rs.length) (fun (i : Nat) => D.tup [.int i, .str (nm rs i)]) (fun i => decide (nm rs i ∈ pick rs p)) (fun i => D.int (2 ^ i)) (fun P h => by simpa [num_items] using h) (by rw [List.length_range]; exact len_sz ok.2.2.2) (fun i m P N h1 h2 => ?_) ?_
  · have hi := List.mem_range.mp m
    simp [good_str (ok.1 _ (nm_mem hi)).ok, gl, any_strs]
    by_cases hx : nm rs i ∈ pick rs p
    · simp [hx] at h1 ⊢
      exact ⟨sh1 (by have := ok.2.2.2; omega), h1⟩
    · simp [hx] at h2 ⊢
      exact h2
  · simp [intsOf_m]
    refine hr _ _ ?_
    have e : (List.range rs.length).filter (fun i => decide (nm rs i ∈ pick rs p)) = (List.range rs.length).filter p := List.filter_congr fun i m => by
      have := mem_pick (p := p) ok.2.1 (List.mem_range.mp m)
      rw [Bool.eq_iff_iff, decide_eq_true_iff]
      exact this
    rw [e, sum_mk]
    simpa using q
theorem kp_lot_of {S : Sps} {C : Nat} : keeps [.fz, .fz] 4 (spLotOf C) (w_lot_of S C) := by
  refine keeps_i fun ds Q E hs hl K hn hr => ?_
  obtain ⟨rs, A, h, p, rfl, ⟨text, told, tq, rfl, e1, e2, e3⟩, ok, q⟩ := hs
  unfold w_lot_of houD lotD at *
  simp only [wRet, wB, rsC, rE, rsN]
  refine lcB (List.range rs.length) (fun (i : Nat) => D.tup [.int i, .str (nm rs i)]) p (fun i => D.str (nm rs i)) (fun P h => by simpa [num_items] using h) (by rw [List.length_range]; exact len_sz ok.2.2.2) (fun i m P N h1 h2 => ?_) ?_
  · have hi := List.mem_range.mp m
    have hb := bit_mk (p := p) hi
    simp
    rw [← hb] at h1 h2
    by_cases hx : Builtin.bitAnd ((mk rs.length p : Int) / 2 ^ i) 1 = 1
    · simp [hx] at h1 ⊢
      exact h1
    · simp [hx] at h2 ⊢
      exact h2
  · simp
    refine hr _ _ ?_
    simpa [pick, nums, nm, Function.comp_def] using q
theorem at_map {n i : Nat} {f : Nat → D} (h : i < n) : atI ((List.range n).map f) (i : Int) = some (f i) := by
  rw [atN (by simpa using h)]
  simp
theorem ixN_nat {n i : Nat} (h : i < n) : ixN n (i : Int) = some i := by simp [ixN, h]
theorem set_map {n i : Nat} {f : Nat → D} {x : D} : ((List.range n).map f).set i x = (List.range n).map fun v => if v = i then x else f v := by
  refine List.ext_getElem? fun k => ?_
  rw [List.getElem?_set]
  by_cases hk : k < n
  · by_cases e : i = k
    · subst e; simp [hk]
    · have e' : ¬ k = i := fun h => e h.symm
      simp [hk, e, e']
  · have h2 : ((List.range n).map fun v => if v = i then x else f v)[k]? = none := List.getElem?_eq_none (by simp; omega)
    rw [h2]
    by_cases e : i = k
    · subst e; simp [hk]
    · rw [if_neg e]; exact List.getElem?_eq_none (by simp; omega)
theorem firstS_at : ∀ {rs : List Str} (k : Nat) {i : Nat}, rs.Nodup → i < rs.length → firstS (nm rs i) k rs = some (k + i)
  | [], _, _, _, h => absurd h (Nat.not_lt_zero _)
  | r :: rs, k, 0, _, _ => by unfold firstS; simp [nm]
  | r :: rs, k, i + 1, nd, h => by
    have e : nm (r :: rs) (i + 1) = nm rs i := by simp [nm]
    have hi : i < rs.length := Nat.lt_of_succ_lt_succ h
    rw [List.nodup_cons] at nd
    have ne : r ≠ nm rs i := fun e => nd.1 (e ▸ nm_mem hi)
    rw [e]
    unfold firstS
    rw [if_neg (by first | exact ne | exact fun e => ne e.symm), firstS_at (k + 1) nd.2 hi]
    congr 1
    omega
def adj (tq : List (Nat × Nat)) (i j : Nat) : Bool := decide ((i, j) ∈ tq) || decide ((j, i) ∈ tq)
theorem kp_near_of {S : Sps} {C : Nat} : keeps [.fz] 6 (spNearOf C) (w_near_of S C) := by
  refine keeps_i fun ds Q E hs hl K hn hr => ?_
  obtain ⟨rs, A, h, rfl, ⟨text, told, tq, rfl, rfl, e2, e3⟩, ok, q⟩ := hs
  have hl : rs.length ≤ 16 := ok.2.2.2
  unfold w_near_of houD at *
  obtain ⟨T, hT⟩ : ∃ T, T = prs (tq.map fun p => (nm rs p.1, nm rs p.2)) := ⟨_, rfl⟩
  rw [← hT]
  have hT : T = tq.map fun p => D.tup [.str (nm rs p.1), .str (nm rs p.2)] := by rw [hT]; unfold prs; rw [List.map_map]; rfl
  refine seq_i fun N hN => ?_
  simp
  have b1 : (rs.length : Int) < 2 ^ 63 := by omega
  refine ⟨b1, len_sz hl, hN _ ?_⟩
  refine seq_i fun N hN => ?_
  refine forJ tq (fun p => D.tup [.str (nm rs p.1), .str (nm rs p.2)]) (fun P h => by simpa [← hT] using h) (fun k a b c d => [.fz (.ins C ["own_text", "own_rooms", "own_doors"] [.str text, .ttp (rs.map .str), .tup T]), .ow (nearD rs.length (adj (tq.take k))), a, b, c, d]) ⟨.un, .un, .un, .un, ?_⟩ (fun k hk a b c d N hN => ?_) (fun a b c d => hN _ ?_)
  · have e : List.replicate rs.length (D.int 0) = (List.range rs.length).map fun i => D.int (mk rs.length (adj (tq.take 0) i) : Nat) := by
      have : ∀ i, mk rs.length (adj (tq.take 0) i) = 0 := fun i => mk_zero.mpr fun j _ => by simp [adj]
      simp only [this]
      rw [List.map_const', List.length_range]
      rfl
    rw [e]
    rfl
  · obtain ⟨i1, i2, i3⟩ := e2 _ (List.getElem_mem hk)
    revert i1 i2 i3
    generalize hij : tq[k] = ij
    obtain ⟨i, j⟩ := ij
    intro i1 i2 i3
    have i1 : i < rs.length := i1
    have i2 : j < rs.length := i2
    have i3 : i ≠ j := i3
    unfold nearD
    simp [strsOf_map, firstS_at 0 ok.2.1 i1, firstS_at 0 ok.2.1 i2, kIx.kIxS, at_map i1, at_map i2, ixN_nat i1, ixN_nat i2, set_map]
    refine ⟨sh1 (by omega), sh1 (by omega), ?_⟩
    have e : ((List.range rs.length).map fun v => if v = j then D.int (Builtin.bitOr (mk rs.length (adj (tq.take k) j) : Nat) (2 ^ i)) else if v = i then D.int (Builtin.bitOr (mk rs.length (adj (tq.take k) i) : Nat) (2 ^ j)) else D.int (mk rs.length (adj (tq.take k) v) : Nat)) = (List.range rs.length).map fun v => D.int (mk rs.length (adj (tq.take (k + 1)) v) : Nat) := by
      have o1 : ((2 : Int) ^ i) = (mk rs.length (fun x => decide (x = i)) : Nat) := by rw [mk_one i1]; simp
      have o2 : ((2 : Int) ^ j) = (mk rs.length (fun x => decide (x = j)) : Nat) := by rw [mk_one i2]; simp
      have ht : tq.take (k + 1) = tq.take k ++ [(i, j)] := by rw [List.take_add_one, List.getElem?_eq_getElem hk, hij]; rfl
      rw [o1, o2, bor_mk, bor_mk, ht]
      refine List.map_congr_left fun v _ => ?_
      have ad : ∀ v x, adj (tq.take k ++ [(i, j)]) v x = (adj (tq.take k) v x || (decide (v = i) && decide (x = j)) || (decide (v = j) && decide (x = i))) := fun v x => by
        rw [Bool.eq_iff_iff]
        simp [adj]
        grind
      by_cases v1 : v = j
      · subst v1
        rw [if_pos rfl]
        congr 2
        refine mk_ext fun x _ => ?_
        rw [ad]
        have : ¬ v = i := fun e => i3 e.symm
        simp [this]
      · rw [if_neg v1]
        by_cases v2 : v = i
        · subst v2
          rw [if_pos rfl]
          congr 2
          refine mk_ext fun x _ => ?_
          rw [ad]
          simp [i3]
        · rw [if_neg v2]
          congr 2
          refine mk_ext fun x _ => ?_
          rw [ad]
          simp [v1, v2]
    rw [e]
    exact hN _ _ _ _
  · simp
    refine hr _ _ ?_
    have e : adj tq = A := by
      funext i j
      rw [Bool.eq_iff_iff, e3 i j]
      simp [adj]
    simp [e]
    exact q
end K01

set_option Elab.async false
set_option linter.all false
set_option maxRecDepth 100000
set_option maxHeartbeats 1000000
namespace K01
open PySem L2 PySem.Spec PyProof.Rows Pu TL
theorem num_near (n : Nat) (f : Nat → D) : numbered 0 ((List.range n).map f) = (List.range n).map fun (i : Nat) => D.tup [.int i, f i] := by
  rw [numbered_eq, List.length_map, List.length_range]
  refine List.map_congr_left fun i m => ?_
  rw [List.getElem?_map, List.getElem?_range (List.mem_range.mp m)]
  simp
def mkD (n : Nat) (p : Nat → Bool) : D := .int (mk n p : Nat)
def spAround : DSp := fun ds Q _ => ∃ n A p, ds = [nearD n A, mkD n p] ∧ n ≤ 16 ∧ Q (.fz (mkD n (round n A p))) [.non, .non]
def spEdge : DSp := fun ds Q _ => ∃ n A p, ds = [nearD n A, mkD n p] ∧ n ≤ 16 ∧ Q (.fz (mkD n fun j => round n A p j && !p j)) [.non, .non]
def spPartFrom : DSp := fun ds Q _ => ∃ n A f s, ds = [nearD n A, mkD n f, .int ((2 ^ s : Nat) : Int)] ∧ n ≤ 16 ∧ s < n ∧ Q (.fz (mkD n (conn n A f s))) [.non, .non, .non]
def spPartsOf : DSp := fun ds Q _ => ∃ n A f, ds = [nearD n A, mkD n f] ∧ n ≤ 16 ∧ (∀ i j, A i j = A j i) ∧ Q (.fz (.lst ((reps n A f).map fun r => mkD n (conn n A f r)))) [.non, .non]
def partR (n : Nat) (A : Nat → Nat → Bool) (p : Nat → Bool) (k j : Nat) : Bool := (List.range k).any fun i => p i && A i j
theorem partR_succ {n : Nat} {A : Nat → Nat → Bool} {p : Nat → Bool} {k j : Nat} : partR n A p (k + 1) j = (partR n A p k j || (p k && A k j)) := by
  unfold partR
  rw [List.range_succ, List.any_append]
  simp
theorem kp_around {S : Sps} {C : Nat} : keeps [.fz, .fz] 5 spAround (w_around S C) := by
  refine keeps_i fun ds Q E hs hl K hn hr => ?_
  obtain ⟨n, A, p, rfl, hl, q⟩ := hs
  unfold w_around mkD at *
  refine seq_i fun N hN => ?_
  simp
  refine hN _ ?_
  refine seq_i fun N hN => ?_
  refine forJ (List.range n) (fun (i : Nat) => D.tup [.int i, .int (mk n (A i) : Nat)]) (fun P h => ?_) (fun k a b c d => [.fz (nearD n A), .fz (.int (mk n p : Nat)), .fz (.int (mk n (partR n A p k) : Nat)), a, b]) ⟨.un, .un, .un, .un, ?_⟩ (fun k hk a b c d N hN => ?_) (fun a b c d => hN _ ?_)
  · unfold nearD at h ⊢
    simpa [num_near] using h
  · have : mk n (partR n A p 0) = 0 := mk_zero.mpr fun _ _ => rfl
    rw [this]
    rfl
  · have hk : k < n := by simpa using hk
    rw [List.getElem_range]
    simp
    have hb := bit_mk (p := p) hk
    by_cases hx : Builtin.bitAnd ((mk n p : Int) / 2 ^ k) 1 = 1
    · have hp : p k = true := by rw [← hb]; simp [hx]
      rw [if_pos hx, bor_mk, mk_ext (p := fun i => partR n A p k i || A k i) (q := partR n A p (k + 1)) (fun j _ => ?_)]
      · exact hN _ _ .un .un
      · rw [partR_succ, hp]
        simp
    · have hp : p k = false := by rw [← hb]; simp [hx]
      rw [if_neg hx, mk_ext (p := partR n A p k) (q := partR n A p (k + 1)) (fun j _ => ?_)]
      · exact hN _ _ .un .un
      · rw [partR_succ, hp]
        simp
  · simp
    refine hr _ _ ?_
    have e : partR n A p n = round n A p := rfl
    rw [e]
    simpa using q
theorem kp_edge_of {S : Sps} {C : Nat} (h1 : S.around = spAround) : keeps [.fz, .fz] 2 spEdge (w_edge_of S C) := by
  refine keeps_i fun ds Q E hs hl K hn hr => ?_
  obtain ⟨n, A, p, rfl, hl, q⟩ := hs
  unfold w_edge_of
  simp [h1]
  refine ⟨n, A, p, rfl, hl, ?_⟩
  unfold mkD at *
  simp [band_mk]
  refine hr _ _ ?_
  simpa using q
theorem kp_part_from {S : Sps} {C : Nat} (h1 : S.around = spAround) : keeps [.fz, .fz, .fz] 5 spPartFrom (w_part_from S C) := by
  refine keeps_i fun ds Q E hs hl K hn hr => ?_
  obtain ⟨n, A, f, s, rfl, hl, hs, q⟩ := hs
  unfold w_part_from mkD at *
  refine seq_i fun N hN => ?_
  simp
  refine hN _ ?_
  refine seq_i fun N hN => ?_
  have e0 : ((2 ^ s : Nat) : Int) = (mk n (fun i => decide (i = s)) : Nat) := by rw [mk_one hs]
  unfold wWhile
  refine ⟨fun m ρ => ∃ F M, Flood n A f s F M ∧ ρ = [.fz (nearD n A), .fz (.int (mk n f : Nat)), .fz (.int ((2 ^ s : Nat) : Int)), .fz (.int (mk n F : Nat)), .fz (.int (mk n M : Nat))] ∧ m = 2 * (2 ^ n - mk n F) + (if mk n M = 0 then 0 else 1), ⟨_, _, _, Flood.start, ?_, rfl⟩, ?_⟩
  · rw [← e0]
    simp
  · rintro m ρ ⟨F, M, fl, rfl, rfl⟩
    simp
    by_cases hM : mk n M = 0
    · rw [if_pos hM]
      refine hN _ ?_
      simp
      refine hr _ _ ?_
      have := mk_ext (p := F) (q := conn n A f s) (n := n) fun j hj => fl.end hs (fun i hi => mk_zero.mp hM i hi) hj
      rw [this]
      simpa using q
    · rw [if_neg hM]
      simp [h1]
      refine ⟨n, A, M, rfl, hl, ?_⟩
      unfold mkD
      simp [band_nn, mk_and]
      have eb : Builtin.bitAnd (mk n (fun i => round n A M i && f i) : Int) (Builtin.bitNot (mk n F : Int)) = (mk n (Pu.fresh n A f F M) : Nat) := band_mk
      rw [eb, bor_mk]
      refine ⟨_, ?_, _, _, fl.next, ⟨rfl, rfl⟩, rfl⟩
      have dj : mk n (fun i => F i || Pu.fresh n A f F M i) = mk n F + mk n (Pu.fresh n A f F M) := mk_disj fun i _ h => by
        unfold Pu.fresh at h
        cases hF : F i with
        | false => rfl
        | true => rw [hF] at h; simp at h
      have l1 := mk_lt n (fun i => F i || Pu.fresh n A f F M i)
      rw [if_neg hM, dj]
      rw [dj] at l1
      split <;> omega
theorem kp_parts_of {S : Sps} {C : Nat} (h1 : S.part_from = spPartFrom) : keeps [.fz, .fz] 5 spPartsOf (w_parts_of S C) := by
  refine keeps_i fun ds Q E hs hl K hn hr => ?_
  obtain ⟨n, A, f, rfl, hl, sy, q⟩ := hs
  unfold w_parts_of mkD at *
  refine seq_i fun N hN => ?_
  simp
  refine hN _ ?_
  refine seq_i fun N hN => ?_
  refine while_i (fun m ρ => ∃ k c, k + m = (reps n A f).length ∧ ρ = [.fz (nearD n A), .fz (.int (mk n f : Nat)), .ow (.lst (((reps n A f).take k).map fun r => .int (mk n (conn n A f r) : Nat))), .fz (.int (mk n (leftAt n A f k) : Nat)), c]) ⟨_, 0, .un, Nat.zero_add _, ?_⟩ ?_
  · have e : leftAt n A f 0 = f := by
      funext j
      simp [leftAt]
    rw [e]
    rfl
  · rintro m ρ ⟨k, c, hkm, rfl⟩ N1 hN1
    simp
    by_cases hM : mk n (leftAt n A f k) = 0
    · rw [if_pos hM]
      refine hN _ ?_
      have hk : (reps n A f).length ≤ k := by
        rcases Nat.lt_or_ge k (reps n A f).length with h | h
        · have h2 := (left_at (A := A) (f := f) sy h).1
          rw [mk_zero.mp hM _ (rep_free (List.getElem_mem h)).2] at h2
          cases h2
        · exact h
      rw [List.take_of_length_le (by simpa using hk)]
      simp
      refine hr _ _ ?_
      simpa [Function.comp_def] using q
    · rw [if_neg hM]
      have hk : k < (reps n A f).length := by
        rcases Nat.lt_or_ge k (reps n A f).length with h | h
        · exact h
        · exact absurd (mk_zero.mpr fun j hj => left_all h hj) hM
      obtain ⟨l1, l2⟩ := left_at (A := A) (f := f) sy hk
      have hr2 := rep_free (List.getElem_mem hk)
      have low := low_mk hr2.2 l1 l2
      simp at low
      refine hN1 _ ?_
      refine seq_i fun N' hN' => ?_
      simp [h1, low]
      refine ⟨n, A, f, (reps n A f)[k], rfl, hl, hr2.2, hN' _ ?_⟩
      unfold mkD
      simp
      have rl : (reps n A f).length ≤ n := by
        have := List.length_filter_le (isRep n A f) (List.range n)
        rw [List.length_range] at this
        exact this
      refine ⟨Nat.lt_of_lt_of_le (show _ < 17 by omega) (by decide), m - 1, by omega, k + 1, by omega, ?_, ?_⟩
      · rw [List.take_add_one, List.getElem?_map, List.getElem?_eq_getElem hk]
        rfl
      · have e := band_mk (n := n) (p := leftAt n A f k) (q := conn n A f (reps n A f)[k])
        rw [e]
        exact congrArg Nat.cast (mk_ext fun j _ => (left_succ hk j).symm)
end K01

set_option Elab.async false
set_option linter.all false
set_option maxRecDepth 100000
set_option maxHeartbeats 1000000
namespace K01
open PySem L2 PySem.Spec PyProof.Rows Pu TL
def intD (i : Nat) : D := .int i
def spPot : DSp := fun ds Q _ => ∃ ns place, ds = [.scr ns, .int place] ∧ 0 ≤ place ∧ place ≤ 10 ∧ ∀ p, PotOk 0 p → Q (.ow p) [.non, .non]
theorem cpw1 : CPw 10 60 := ⟨by decide, by decide +kernel⟩
theorem cpw2 : CPw 10 18 := ⟨by decide, by decide +kernel⟩
theorem cpw3 : CPw 1000000000000000000000000000000000000000000000000000000000000 5 := ⟨by decide, by decide +kernel⟩
theorem ints_cut (ns : List Int) (lo hi : Option Int) : ∃ l : List Int, Pu.cutD (ns.map D.int) lo hi = l.map D.int := by
  unfold Pu.cutD
  rw [List.length_map, ← List.map_drop, ← List.map_take]
  exact ⟨_, rfl⟩
theorem kp__law_pot {S : Sps} {C : Nat} : keeps [.fz, .fz] 5 spPot (w__law_pot S C) := by
  refine keeps_i fun ds Q E hs hl K hn hr => ?_
  obtain ⟨ns, place, rfl, p0, p1, q⟩ := hs
  unfold w__law_pot
  refine seq_i fun N hN => ?_
  have h1 : ∀ cell : Int, N [.fz (.scr ns), .fz (.int place), .fz (.int cell), .un, .un] := fun cell => by
    refine hN _ ?_
    refine seq_i fun N hN => ?_
    simp only [wSet, wOp, rE, wB, rsC, rsN, rN, wC]
    simp [cpw1, cpw2, cpw3]
    generalize hx : (if cell < 0 then -cell else cell) = x
    have x0 : 0 ≤ x := by rw [← hx]; split <;> omega
    generalize hb : (if 1000000000000000000 ≤ x then (1 : Int) else 0) = b
    have b0 : 0 ≤ b ∧ b ≤ 1 := by rw [← hb]; split <;> omega
    refine ⟨.inr ⟨by omega, by omega⟩, hN _ ?_⟩
    generalize ho : x % _ * b = o
    have o0 : 0 ≤ o := by
      rw [← ho]
      exact Int.mul_nonneg (Int.emod_nonneg _ (by decide)) b0.1
    refine seq_i fun N hN => ?_
    simp
    refine hN _ ?_
    have s0 : 0 ≤ cell % 2305843009213693951 := Int.emod_nonneg _ (by decide)
    have s1 : cell % 2305843009213693951 < 2305843009213693951 := Int.emod_lt_of_pos _ (by decide)
    revert s0 s1
    generalize cell % 2305843009213693951 = s
    intro s0 s1
    simp
    refine ⟨.inr ⟨by decide, by decide⟩, .inl ⟨by decide, by decide⟩, .inr ⟨by omega, by omega⟩, hr _ _ ?_⟩
    simp
    refine q _ ⟨_, _, _, rfl, o0, Int.emod_nonneg _ (by decide), ?_, by decide, by decide⟩
    exact Int.lt_trans (Int.emod_lt_of_pos _ (show (0 : Int) < 2305843009213693921 by decide)) (by decide)
  simp [kIx.kIxS]
  by_cases hp : place < ns.length
  · rw [if_pos hp]
    obtain ⟨i, rfl⟩ := Int.eq_ofNat_of_zero_le p0
    have hi : i < ns.length := by omega
    rw [atN (by simpa using hi)]
    simp
    exact h1 _
  · rw [if_neg hp]
    obtain ⟨l, el⟩ := ints_cut ns none (some 1)
    simp [el, intsOf_map]
    exact ⟨.inl ⟨by decide, by decide⟩, h1 _⟩
def spCells : DSp := fun ds Q _ => ∃ ns, ds = [.scr ns, .int 2] ∧ ∀ m, 1 ≤ m → m ≤ 2 → Q (.ow (.lst ((List.range m).map intD))) [.non, .non]
theorem kp__law_cells {S : Sps} {C : Nat} : keeps [.fz, .fz] 2 spCells (w__law_cells S C) := by
  refine keeps_i fun ds Q E hs hl K hn hr => ?_
  obtain ⟨ns, rfl, q⟩ := hs
  unfold w__law_cells
  simp
  generalize hx : (if 1 < if (ns.length : Int) < 2 then (ns.length : Int) else 2 then if (ns.length : Int) < 2 then (ns.length : Int) else 2 else 1) = x
  have x0 : 1 ≤ x ∧ x ≤ 2 := by rw [← hx]; repeat' split <;> omega
  clear hx
  obtain ⟨m, rfl⟩ := Int.eq_ofNat_of_zero_le (show 0 ≤ x by omega)
  refine ⟨RgOk.of_le (by decide) (by omega) (by decide) (by omega), hr _ _ ?_⟩
  rw [rangeD0]
  simp
  exact q m (by omega) (by omega)
def spSome : DSp := fun ds Q _ => ∃ (p pool : D) (k : Nat) (its : List D) (m : Nat), ds = [p, pool, .int m] ∧ seqD pool = some its ∧ PotOk k p ∧ k + m < 2 ^ 30 ∧ m ≤ its.length ∧ its.length ≤ 1000 ∧ ∀ (out rest : List D) (p' : D), (out ++ rest).Perm its → out.length = m → PotOk (k + m) p' → Q (.ow (.lst out)) [p', .non, .non]
theorem seqI {n i : Nat} (h : i < n) : PySem.seqIndex? (i : Int) n = some i := by
  unfold PySem.seqIndex?
  have h0 : ¬ ((i : Int) < 0) := by omega
  have h1 : (i : Int) < (n : Int) := by omega
  simp [h0, h1]
theorem erase_perm {α : Type} : ∀ {l : List α} {i : Nat} (h : i < l.length), (l[i] :: l.eraseIdx i).Perm l
  | _ :: _, 0, _ => List.Perm.refl _
  | a :: l, i + 1, h => by
    have h' : i < l.length := Nat.lt_of_succ_lt_succ h
    exact (List.Perm.swap a (l[i]'h') _).trans (List.Perm.cons a (erase_perm h'))
theorem kp__law_some {S : Sps} {C : Nat} (h1 : S._law_take = spTake) : keeps [.io, .fz, .fz] 6 spSome (w__law_some S C) := by
  refine keeps_i fun ds Q E hs hl K hn hr => ?_
  obtain ⟨p, pool, k, its, m, rfl, hp, pk, hk, hm, hl, q⟩ := hs
  unfold w__law_some
  refine seq_i fun N hN => ?_
  have first : N [.io 0 p, .fz pool, .fz (.int m), .ow (.lst its), .ow (.lst []), .un] := by
    refine hN _ ?_
    refine seq_i fun N hN => ?_
    have b1 : (m : Int) < 2 ^ 62 := by omega
    refine forW (List.range m) intD (fun P h => by simp; rw [rangeD0]; exact ⟨b1, h⟩) (fun i ρ => ∃ (p' : D) (out rest : List D) (c : Sl), ρ = [.io 0 p', .fz pool, .fz (.int m), .ow (.lst rest), .ow (.lst out), c] ∧ PotOk (k + i) p' ∧ (out ++ rest).Perm its ∧ out.length = i) ⟨p, [], its, _, rfl, pk, List.Perm.refl _, rfl⟩ (fun i hi ρ N hW hN => ?_) (fun ρ hW => hN _ ?_)
    · obtain ⟨p', out, rest, c, rfl, pk', pm, ho⟩ := hW
      have hi : i < m := by simpa using hi
      have hlen := pm.length_eq
      rw [List.length_append, ho] at hlen
      simp [h1]
      refine ⟨p', k + i, rest.length, rfl, pk', by omega, by omega, by omega, fun r p2 r0 r1 pk2 => ?_⟩
      obtain ⟨j, rfl⟩ := Int.eq_ofNat_of_zero_le r0
      have hj : j < rest.length := by omega
      have b2 : (j : Int) < 2 ^ 63 := by omega
      simp [seqI hj, hj]
      refine ⟨b2, ?_, ?_⟩
      · rw [ho]; exact Nat.lt_of_lt_of_le hi (Nat.le_trans hm (Nat.le_trans hl (by decide)))
      · refine hN _ ⟨p2, out ++ [rest[j]], rest.eraseIdx j, .fz (intD i), rfl, by rw [← Nat.add_assoc]; exact pk2, ?_, by simp [ho]⟩
        rw [List.append_assoc]
        refine List.Perm.trans (List.Perm.append_left _ ?_) pm
        exact erase_perm hj
    · obtain ⟨p', out, rest, c, rfl, pk', pm, ho⟩ := hW
      rw [List.length_range] at pk' ho
      simp
      refine hr _ _ ?_
      simp
      exact q _ _ _ pm ho pk'
  cases pool with
  | lst xs =>
    obtain rfl : xs = its := by simpa using hp
    simp
    exact first
  | tup xs =>
    obtain rfl : xs = its := by simpa using hp
    simp
    exact first
  | scr ns =>
    obtain rfl : ns.map D.int = its := by simpa using hp
    simp
    exact first
  | _ => simp at hp
def spOf : DSp := fun ds Q _ => ∃ (p pool : D) (k : Nat) (its : List D), ds = [p, pool] ∧ seqD pool = some its ∧ PotOk k p ∧ k < 2 ^ 30 ∧ 1 ≤ its.length ∧ its.length ≤ 1000 ∧ ∀ x ∈ its, ∀ p', PotOk (k + 1) p' → Q (.fz x) [p', .non]
theorem kp__law_of {S : Sps} {C : Nat} (h1 : S._law_take = spTake) : keeps [.io, .fz] 2 spOf (w__law_of S C) := by
  refine keeps_i fun ds Q E hs hl K hn hr => ?_
  obtain ⟨p, pool, k, its, rfl, hp, pk, hk, h0, hl, q⟩ := hs
  unfold w__law_of
  have fin : ∀ r p2, 0 ≤ r → r < (its.length : Int) → PotOk (k + 1) p2 → ∃ x, atI its r = some x ∧ K.rt (.fz x) [.io 0 p2, .fz pool] := fun r p2 r0 r1 pk2 => by
    obtain ⟨j, rfl⟩ := Int.eq_ofNat_of_zero_le r0
    have hj : j < its.length := by omega
    refine ⟨its[j], atN hj, hr _ _ ?_⟩
    simpa using q _ (List.getElem_mem hj) p2 pk2
  cases pool with
  | lst xs =>
    obtain rfl : xs = its := by simpa using hp
    simp [h1, kIx.kIxS]
    refine ⟨p, k, xs.length, rfl, pk, hk, by omega, by omega, fun r p2 r0 r1 pk2 => ?_⟩
    obtain ⟨x, e, f⟩ := fin r p2 r0 r1 pk2
    simp [kIx.kIxS, e]
    exact f
  | tup xs =>
    obtain rfl : xs = its := by simpa using hp
    simp [h1, kIx.kIxS]
    refine ⟨p, k, xs.length, rfl, pk, hk, by omega, by omega, fun r p2 r0 r1 pk2 => ?_⟩
    obtain ⟨x, e, f⟩ := fin r p2 r0 r1 pk2
    simp [kIx.kIxS, e]
    exact f
  | scr ns =>
    obtain rfl : ns.map D.int = its := by simpa using hp
    rw [List.length_map] at *
    simp [h1, kIx.kIxS]
    refine ⟨p, k, ns.length, rfl, pk, hk, by omega, by omega, fun r p2 r0 r1 pk2 => ?_⟩
    obtain ⟨x, e, f⟩ := fin r p2 r0 r1 pk2
    simp [kIx.kIxS, e]
    exact f
  | _ => simp at hp
end K01

set_option Elab.async false
set_option linter.all false
set_option maxRecDepth 100000
set_option maxHeartbeats 1000000
namespace K01
open PySem L2 PySem.Spec PyProof.Rows Pu TL
def okB (x : Str) : Bool := decide (0 < (tl x).length) && decide ((tl x).length ≤ 8) && (match tl x with
  | c :: _ => decide (97 ≤ c) && decide (c ≤ 122)
  | [] => false) && nameSigns (tl x)
theorem ok_of {x : Str} (h : okB x = true) : OkName x := by
  unfold okB at h
  simp only [Bool.and_eq_true, decide_eq_true_eq] at h
  obtain ⟨⟨⟨h1, h2⟩, h3⟩, h4⟩ := h
  refine ⟨h1, h2, ?_, h4⟩
  revert h3
  cases tl x with
  | nil => intro h; cases h
  | cons c r => intro h; simp at h; exact ⟨c, r, rfl, h.1, h.2⟩
def numS (c : Str) (i : Nat) : Str := c ++ (toString (i : Int) : String)
def lets : Str := "abcdefghijklmnopqrstuvwxyz"
def figs : Str := "0123456789"
def chS (c : Nat) : Str := ⟨#[c]⟩
theorem lets_all : (tl lets).all (fun c => decide (97 ≤ c) && decide (c ≤ 122)) = true := by decide +kernel
theorem lets_len : (tl lets).length = 26 := by decide +kernel
theorem sg_all : nameSigns (tl (lets ++ figs)) = true := by decide +kernel
theorem sg_len : (tl (lets ++ figs)).length = 36 := by decide +kernel
theorem gs_ok : ((List.range 17).map (numS "g")).all okB = true := by decide +kernel
theorem gs_nd : ((List.range 17).map (numS "g")).Nodup := by decide +kernel
theorem at_nat {α : Type} {l : List α} {i : Nat} (h : i < l.length) : atI l (i : Int) = some l[i] := by simp [atI, ixN, h]
theorem few_in {α : Type} [DecidableEq α] : ∀ {l m : List α}, l.Nodup → (∀ x ∈ l, x ∈ m) → l.length ≤ m.length
  | [], _, _, _ => Nat.zero_le _
  | a :: l, m, nd, h => by
    rw [List.nodup_cons] at nd
    have ha := h a (List.mem_cons_self ..)
    have ih := few_in (l := l) (m := m.erase a) nd.2 fun x hx => (List.mem_erase_of_ne (fun (e : x = a) => nd.1 (by rw [← e]; exact hx))).mpr (h x (List.mem_cons_of_mem _ hx))
    rw [List.length_erase_of_mem ha] at ih
    have : 0 < m.length := List.length_pos_of_mem ha
    rw [List.length_cons]
    omega
def Grow (i : Nat) (x : Str) : Prop := (tl x).length = i + 1 ∧ (∃ c r, tl x = c :: r ∧ 97 ≤ c ∧ c ≤ 122) ∧ nameSigns (tl x) = true
theorem Grow.more {i : Nat} {x : Str} (h : Grow i x) {c : Nat} (hc : c ∈ tl (lets ++ figs)) : Grow (i + 1) (x ++ chS c) := by
  have e : tl (x ++ chS c) = tl x ++ [c] := by rw [tl_append]; rfl
  obtain ⟨h1, ⟨a, r, h2, h3⟩, h4⟩ := h
  refine ⟨by rw [e, List.length_append, h1]; rfl, ⟨a, r ++ [c], by rw [e, h2]; rfl, h3⟩, ?_⟩
  rw [e]
  refine List.all_eq_true.mpr fun b m => ?_
  rcases List.mem_append.mp m with m | m
  · exact List.all_eq_true.mp h4 b m
  · rw [List.mem_singleton.mp m]
    exact List.all_eq_true.mp sg_all c hc
theorem Grow.ok {i : Nat} {x : Str} (h : Grow i x) (hi : i < 8) : OkName x := ⟨by rw [h.1]; omega, by rw [h.1]; omega, h.2.1, h.2.2⟩
def spName1 : DSp := fun ds Q _ => ∃ (p : D) (k : Nat) (l : List Str), ds = [p, .lst (l.map .str)] ∧ PotOk k p ∧ k + 20 < 2 ^ 30 ∧ (∀ x ∈ l, OkName x) ∧ l.length ≤ 16 ∧ ∀ (x : Str) (p' : D), OkName x → x ∉ l → PotOk (k + 20) p' → Q (.fz (.str x)) [p', .lst (l.map .str)]
theorem kp__law_name {S : Sps} {C : Nat} (h1 : S._law_take = spTake) : keeps [.io, .io] 7 spName1 (w__law_name S C) := by
  refine keeps_i fun ds Q E hs hl K hn hr => ?_
  obtain ⟨p, k, l, rfl, pk, hk, okl, hl, q⟩ := hs
  have gl : (D.lst (l.map D.str)).good = true := good_lst (n := 0) (fun d m => by
    obtain ⟨x, mx, rfl⟩ := List.mem_map.mp m
    exact (okl x mx).ok) fun d m => by rw [strs_py l d m]; exact Nat.le_refl _
  unfold w__law_name
  refine seq_i fun N hN => ?_
  simp
  refine hN _ ?_
  refine seq_i fun N hN => ?_
  have eL : (Str.ofString "abcdefghijklmnopqrstuvwxyz") = lets := rfl
  have eF : (Str.ofString "0123456789") = figs := rfl
  rw [eL, eF]
  simp [h1]
  refine ⟨p, k, 26, rfl, pk, by omega, by decide, by decide, fun x p1 x0 x1 pk1 => ?_⟩
  obtain ⟨x, rfl⟩ := Int.eq_ofNat_of_zero_le x0
  have hx : x < lets.cps.toList.length := by
    have : lets.cps.toList.length = 26 := lets_len
    omega
  simp [kIx.kIxS, at_nat hx]
  refine ⟨by decide, hN _ ?_⟩
  have g0 : Grow 0 (chS lets.cps[x]) := by
    have hc : lets.cps[x] ∈ tl lets := Array.getElem_mem_toList ..
    have := List.all_eq_true.mp lets_all _ hc
    simp at this
    refine ⟨rfl, ⟨_, [], rfl, this.1, this.2⟩, ?_⟩
    refine List.all_eq_true.mpr fun b m => ?_
    have : b = lets.cps[x] := by simpa [chS, TL.tl] using m
    subst this
    simp; omega
  refine seq_i fun N hN => ?_
  refine wFor_eq ?_
  simp [h1]
  refine ⟨p1, _, 8, rfl, pk1, by omega, by decide, by decide, fun r p2 r0 r1 pk2 => ?_⟩
  obtain ⟨r, rfl⟩ := Int.eq_ofNat_of_zero_le r0
  have hr8 : r < 8 := by omega
  have b1 : (r : Int) < 2 ^ 62 := by omega
  simp
  refine ⟨b1, ?_⟩
  rw [rangeD0]
  refine forW' _ (List.range r) intD (fun P h => h) (fun i ρ => ∃ (p' : D) (x : Str) (a : Sl), ρ = [.io 0 p', .io 1 (.lst (l.map .str)), .fz (.str lets), .fz (.str figs), .fz (.str x), a, .un] ∧ PotOk (k + 2 + i) p' ∧ Grow i x) ⟨p2, _, .un, rfl, pk2, g0⟩ (fun i hi ρ N1 hW hN1 => ?_) (fun ρ hW => ?_)
  · obtain ⟨p', y, a, rfl, pk', g⟩ := hW
    have hi : i < r := by simpa using hi
    simp [h1, eL, eF]
    refine ⟨by decide, p', _, 36, rfl, pk', by omega, by decide, by decide, fun z p3 z0 z1 pk3 => ?_⟩
    obtain ⟨z, rfl⟩ := Int.eq_ofNat_of_zero_le z0
    have hz : z < (lets ++ figs).cps.toList.length := by
      have : (lets ++ figs).cps.toList.length = 36 := sg_len
      omega
    simp [-Str.cps_append, -Array.toList_append, -Array.length_toList, kIx.kIxS, at_nat hz]
    have hc : (lets ++ figs).cps.toList[z] ∈ tl (lets ++ figs) := List.getElem_mem ..
    have yl : y.length ≤ 8 := by have : (tl y).length ≤ 8 := by rw [g.1]; omega
                                 exact this
    refine ⟨by have h : (lets ++ figs).length = 36 := sg_len
               rw [h]; decide, ?_, hN1 _ ⟨p3, y ++ chS (lets ++ figs).cps.toList[z], .fz (intD i), ?_, ?_, g.more hc⟩⟩
    · have : y.length + 1 ≤ 9 := by omega
      exact Nat.le_trans this (by decide)
    · simp [chS]
    · rw [show k + 2 + (i + 1) = k + 2 + i + 1 by omega]
      exact pk3
  · obtain ⟨p', y, a, rfl, pk', g⟩ := hW
    rw [List.length_range] at g pk'
    have oky := g.ok hr8
    refine hN _ ?_
    refine seq_i fun N hN => ?_
    have b2 : (l.length : Int) + 1 < 2 ^ 62 := by omega
    have el : ((l.length : Int) + 1) = ((l.length + 1 : Nat) : Int) := by omega
    refine forW (List.range (l.length + 1)) intD (fun P h => by simp; rw [el, rangeD0]; exact ⟨⟨by omega, by rw [← el]; exact b2⟩, h⟩) (fun i ρ => ∃ (x : Str) (b : Sl), ρ = [.io 0 p', .io 1 (.lst (l.map .str)), .fz (.str lets), .fz (.str figs), .fz (.str x), a, b] ∧ OkName x ∧ (x ∉ l ∨ ((∀ j, j + 1 < i → numS "g" j ∈ l) ∧ (0 < i → x = numS "g" (i - 1))))) ⟨y, .un, rfl, oky, .inr ⟨fun j hj => by omega, fun h => absurd h (Nat.lt_irrefl 0)⟩⟩ (fun i hi ρ N1 hW hN1 => ?_) (fun ρ hW => hN _ ?_)
    · obtain ⟨x, b, rfl, okx, inv⟩ := hW
      have hi : i < l.length + 1 := by simpa using hi
      have gx := good_str okx.ok
      have okg : OkName (numS "g" i) := ok_of (List.all_eq_true.mp gs_ok _ (List.mem_map.mpr ⟨i, List.mem_range.mpr (by omega), rfl⟩))
      rw [List.getElem_range]
      have b3 : ((i : Int)).natAbs.log2 < 1920 := by
        rw [Int.natAbs_natCast]
        have : i < 2 ^ 5 := by omega
        by_cases h0 : i = 0
        · subst h0; decide
        · have := (Nat.log2_lt h0).mpr this
          omega
      have tg : (Str.ofString "g") ++ (toString (i : Int) : String) = numS "g" i := rfl
      simp [any_strs, gl, gx]
      by_cases hx : x ∈ l
      · rw [if_pos hx]
        simp [intD]
        have el : (Str.ofString "g").length + (Str.ofString ((i : Int)).repr).length = (numS "g" i).length := by
          have e : (tl (numS "g" i)).length = (tl (Str.ofString "g")).length + (tl (Str.ofString ((i : Int)).repr)).length := by
            rw [← List.length_append, ← tl_append]
            rfl
          exact e.symm
        have l8 : (numS "g" i).length ≤ 8 := okg.few
        refine ⟨by simpa using b3, by rw [el]; exact Nat.le_trans l8 (by decide), hN1 _ ⟨numS "g" i, .fz (.int i), rfl, okg, .inr ⟨fun j hj => ?_, fun _ => rfl⟩⟩⟩
        rcases inv with h | ⟨h2, h3⟩
        · exact absurd hx h
        · by_cases h : j + 1 < i
          · exact h2 j h
          · have : j = i - 1 := by omega
            subst this
            rw [← h3 (by omega)]
            exact hx
      · rw [if_neg hx]
        exact hN1 _ ⟨x, .fz (intD i), rfl, okx, .inl hx⟩
    · obtain ⟨x, b, rfl, okx, inv⟩ := hW
      rw [List.length_range] at inv
      have hx : x ∉ l := by
        rcases inv with h | ⟨h2, h3⟩
        · exact h
        · intro hm
          have ex := h3 (Nat.succ_pos _)
          have nd : ((List.range (l.length + 1)).map (numS "g")).Nodup := by
            refine List.Nodup.sublist ?_ gs_nd
            exact List.Sublist.map _ (List.range_sublist.mpr (by omega))
          have := few_in nd (m := l) fun z mz => by
            obtain ⟨j, mj, rfl⟩ := List.mem_map.mp mz
            have hj := List.mem_range.mp mj
            rcases Nat.lt_or_eq_of_le (Nat.le_of_lt_succ hj) with h | h
            · exact h2 j (by omega)
            · subst h
              exact ex ▸ hm
          rw [List.length_map, List.length_range] at this
          omega
      simp
      refine hr _ _ ?_
      simpa using q x p' okx hx (pk'.le (by omega))
end K01

set_option Elab.async false
set_option linter.all false
set_option maxRecDepth 100000
set_option maxHeartbeats 2000000
namespace K01
open PySem L2 PySem.Spec PyProof.Rows Pu TL
theorem perm_map {α : Type} {f : α → D} {g : D → α} (h : ∀ a, g (f a) = a) {L : List D} {l : List α} (p : L.Perm (l.map f)) : ∃ l' : List α, L = l'.map f ∧ l'.Perm l := by
  refine ⟨L.map g, ?_, ?_⟩
  · rw [List.map_map]
    have : ∀ d ∈ L, (f ∘ g) d = id d := fun d m => by
      obtain ⟨a, _, rfl⟩ := List.mem_map.mp (p.mem_iff.mp m)
      show f (g (f a)) = f a
      rw [h]
    rw [List.map_congr_left this, List.map_id]
  · have := p.map g
    rw [List.map_map] at this
    rw [show (l.map (g ∘ f)) = l by rw [show g ∘ f = id from funext h, List.map_id]] at this
    exact this
theorem ite_i {c : Prop} [Decidable c] {A B : Prop} (a : A) (b : B) : if c then A else B := by split <;> assumption
def unS : D → Str
  | .str x => x
  | _ => default
theorem perm_strs {out rest : List D} {l : List Str} (p : (out ++ rest).Perm (l.map .str)) : ∃ o r : List Str, out = o.map .str ∧ rest = r.map .str ∧ (o ++ r).Perm l := by
  obtain ⟨l', e, p'⟩ := perm_map (g := unS) (f := D.str) (fun _ => rfl) p
  obtain ⟨o, r, e1, e2, e3⟩ := List.append_eq_map_iff.mp e
  exact ⟨o, r, e2.symm, e3.symm, e1 ▸ p'⟩
theorem perm_full {α : Type} {o r l : List α} (p : (o ++ r).Perm l) (h : o.length = l.length) : o.Perm l := by
  have := p.length_eq
  rw [List.length_append] at this
  have : r = [] := List.length_eq_zero_iff.mp (by omega)
  subst this
  rwa [List.append_nil] at p
def names6 : List Str := ["a", "b", "c1", "room", "door", "oak"]
theorem names6_ok : names6.all okB = true := by decide +kernel
theorem names6_nd : names6.Nodup := by decide +kernel
def spNames : DSp := fun ds Q _ => ∃ (p : D) (k n : Nat), ds = [p, .int n] ∧ PotOk k p ∧ k + 1000 < 2 ^ 30 ∧ 1 ≤ n ∧ n ≤ 16 ∧ ∀ (rs : List Str) (p' : D), rs.length = n → RsOk rs → PotOk (k + 500) p' → Q (.fz (.tup (rs.map .str))) [p', .non]
theorem kp__law_names {S : Sps} {C : Nat} (h1 : S._law_take = spTake) (h2 : S._law_some = spSome) (h3 : S._law_name = spName1) : keeps [.io, .fz] 4 spNames (w__law_names S C) := by
  refine keeps_i fun ds Q E hs hl K hn hr => ?_
  obtain ⟨p, k, n, rfl, pk, hk, n1, n2, q⟩ := hs
  unfold w__law_names
  refine seq_i fun N hN => ?_
  simp [h1, h2]
  refine ⟨p, k, 5, rfl, pk, by omega, by decide, by decide, fun x p1 x0 x1 pk1 => ?_⟩
  obtain ⟨x, rfl⟩ := Int.eq_ofNat_of_zero_le x0
  have emin : (if x < n then (x : Int) else (n : Int)) = ((min x n : Nat) : Int) := by split <;> omega
  simp [emin]
  have xl : min x n ≤ 6 := by omega
  have xn : min x n ≤ n := Nat.min_le_right ..
  revert xl xn
  generalize min x n = m
  intro xl xn
  refine ⟨p1, .lst (names6.map .str), k + 1, names6.map .str, m, ?_, rfl, pk1, by omega, xl, by decide, fun out rest p2 pm ho pk2 => ?_⟩
  · rfl
  obtain ⟨o, r, rfl, rfl, pm2⟩ := perm_strs pm
  rw [List.length_map] at ho
  have ok0 : ∀ x ∈ o, OkName x := fun x mx => ok_of (List.all_eq_true.mp names6_ok x (pm2.mem_iff.mp (List.mem_append_left _ mx)))
  have nd0 : o.Nodup := (List.nodup_append.mp (pm2.nodup_iff.mpr names6_nd)).1
  simp
  refine hN _ ?_
  refine seq_i fun N hN => ?_
  have esub : (n : Int) - ((o.length : Nat) : Int) = ((n - m : Nat) : Int) := by omega
  have b1 : ((n - m : Nat) : Int) < 2 ^ 62 := by omega
  refine forW (List.range (n - m)) intD (fun P h => by simp; rw [esub, rangeD0]; exact ⟨⟨by omega, b1⟩, h⟩) (fun i ρ => ∃ (p' : D) (l : List Str) (c : Sl), ρ = [.io 0 p', .fz (.int n), .ow (.lst (l.map .str)), c] ∧ PotOk (k + 8 + 20 * i) p' ∧ l.length = m + i ∧ l.Nodup ∧ ∀ x ∈ l, OkName x) ⟨p2, o, .un, rfl, pk2.le (by omega), by omega, nd0, ok0⟩ (fun i hi ρ N1 hW hN1 => ?_) (fun ρ hW => ?_)
  · obtain ⟨p', l, c, rfl, pk', ll, nd, okl⟩ := hW
    have hi : i < n - m := by simpa using hi
    rw [List.getElem_range]
    simp [h3]
    refine ⟨p', _, l, rfl, pk', by omega, okl, by omega, fun x p3 okx nx pk3 => ?_⟩
    simp
    refine ⟨Nat.lt_of_lt_of_le (show l.length < 17 by omega) (by decide), hN1 _ ⟨p3, l ++ [x], .fz (intD i), by simp, by rw [show k + 8 + 20 * (i + 1) = k + 8 + 20 * i + 20 by omega]; exact pk3, by rw [List.length_append, ll]; rfl, ?_, ?_⟩⟩
    · refine List.nodup_append.mpr ⟨nd, by simp, fun a ma b mb e => ?_⟩
      rw [List.mem_singleton] at mb
      subst mb; subst e
      exact nx ma
    · intro y my
      rcases List.mem_append.mp my with m | m
      · exact okl y m
      · rw [List.mem_singleton.mp m]; exact okx
  · obtain ⟨p', l, c, rfl, pk', ll, nd, okl⟩ := hW
    rw [List.length_range] at ll pk'
    refine hN _ ?_
    simp [h2]
    refine ⟨p', _, _, l.map .str, n, rfl, rfl, pk', by omega, by rw [List.length_map]; omega, by rw [List.length_map]; omega, fun out rest p3 pm ho pk3 => ?_⟩
    obtain ⟨o2, r2, rfl, rfl, pm2⟩ := perm_strs pm
    rw [List.length_map] at ho
    have pf := perm_full pm2 (by omega)
    simp
    refine hr _ _ ?_
    simpa using q o2 p3 ho ⟨fun x mx => okl x (pf.mem_iff.mp mx), pf.nodup_iff.mpr nd, by omega, by omega⟩ (pk3.le (by omega))
end K01

set_option Elab.async false
set_option linter.all false
set_option maxRecDepth 100000
set_option maxHeartbeats 4000000
namespace K01
open PySem L2 PySem.Spec PyProof.Rows Pu TL
def pairT (rs : List Str) (p : Nat × Nat) : D := .tup [.str (nm rs p.1), .str (nm rs p.2)]
def DsOk (rs : List Str) (ds : List (Str × Str)) : Prop := (∀ d ∈ ds, d.1 ∈ rs ∧ d.2 ∈ rs ∧ d.1 ≠ d.2) ∧ ds.Nodup ∧ (∀ d ∈ ds, (d.2, d.1) ∉ ds) ∧ ds.length ≤ 60
def houseT (rs : List Str) (ds : List (Str × Str)) : D := .tup [.tup (rs.map .str), .tup (prs ds)]
/-- pairs drawn so far: at places (i', j') ahead of (i, j) -/
def PI (i j : Nat) (P : List (Nat × Nat)) : Prop := P.Nodup ∧ ∀ p ∈ P, p.1 < p.2 ∧ (p.2 < i ∨ p.2 = i ∧ p.1 < j)
theorem PI.snoc {i j : Nat} {P : List (Nat × Nat)} (h : PI i j P) (hj : j < i) : PI i (j + 1) (P ++ [(j, i)]) := by
  refine ⟨List.nodup_append.mpr ⟨h.1, by simp, fun a ma b mb e => ?_⟩, fun p m => ?_⟩
  · rw [List.mem_singleton] at mb
    subst mb; subst e
    have := (h.2 _ ma).2
    simp at this
  · rcases List.mem_append.mp m with m | m
    · have := h.2 p m
      omega
    · rw [List.mem_singleton.mp m]
      exact ⟨hj, .inr ⟨rfl, Nat.lt_succ_self _⟩⟩
theorem PI.same {i j : Nat} {P : List (Nat × Nat)} (h : PI i j P) : PI i (j + 1) P := ⟨h.1, fun p m => by have := h.2 p m; omega⟩
theorem PI.next {i j : Nat} {P : List (Nat × Nat)} (h : PI i j P) : PI (i + 1) 0 P := ⟨h.1, fun p m => by have := h.2 p m; omega⟩
theorem at_rs {rs : List Str} {i : Nat} (h : i < rs.length) : atI (rs.map D.str) (i : Int) = some (.str (nm rs i)) := by
  rw [atN (by simpa using h)]
  simp [nm, h]
theorem at_six {a b c d e f : Bool} {r : Int} (h0 : 0 ≤ r) (h1 : r < 6) : ∃ x, atI [D.bl a, .bl b, .bl c, .bl d, .bl e, .bl f] r = some (.bl x) := by
  have : r = 0 ∨ r = 1 ∨ r = 2 ∨ r = 3 ∨ r = 4 ∨ r = 5 := by omega
  rcases this with e | e | e | e | e | e <;> rw [e] <;> exact ⟨_, rfl⟩
theorem good_ii (a b : Int) : (D.tup [.int a, .int b]).good = true := rfl
def spDraw : DSp := fun ds Q _ => ∃ (p : D) (k u : Nat), ds = [p, .int u] ∧ PotOk k p ∧ k + 4000 < 2 ^ 30 ∧ 1 ≤ u ∧ u ≤ 16 ∧ ∀ (rs : List Str) (ds : List (Str × Str)) (p' : D), RsOk rs → rs.length ≤ u → DsOk rs ds → PotOk (k + 4000) p' → Q (.fz (houseT rs ds)) [p', .non]
def swp (d : Str × Str) : Str × Str := (d.2, d.1)
def pT (d : Str × Str) : D := .tup [.str d.1, .str d.2]
def lT (d : Str × Str) : D := .lst [.str d.1, .str d.2]
def unP : D → Str × Str
  | .tup [.str a, .str b] => (a, b)
  | _ => default
def nmP (rs : List Str) (p : Nat × Nat) : Str × Str := (nm rs p.1, nm rs p.2)
def DsP (rs : List Str) (ds : List (Str × Str)) : Prop := (∀ d ∈ ds, d.1 ∈ rs ∧ d.2 ∈ rs ∧ d.1 ≠ d.2) ∧ ds.Nodup ∧ ∀ d ∈ ds, swp d ∉ ds
theorem PI.dsp {i : Nat} {rs : List Str} {P : List (Nat × Nat)} (ok : RsOk rs) (h : PI rs.length 0 P) : DsP rs (P.map (nmP rs)) := by
  have lt : ∀ p ∈ P, p.1 < p.2 ∧ p.2 < rs.length := fun p m => by have := h.2 p m; omega
  refine ⟨fun d m => ?_, ?_, fun d m m2 => ?_⟩
  · obtain ⟨p, mp, rfl⟩ := List.mem_map.mp m
    have := lt p mp
    exact ⟨nm_mem (by omega), nm_mem this.2, fun e => by have := nm_inj ok.2.1 (by omega) this.2 e; omega⟩
  · unfold List.Nodup
    rw [List.pairwise_map]
    refine List.Pairwise.imp_of_mem (fun {a b} ma mb hab e => hab ?_) h.1
    have ha := lt a ma
    have hb := lt b mb
    exact Prod.ext (nm_inj ok.2.1 (by omega) (by omega) (congrArg Prod.fst e)) (nm_inj ok.2.1 (by omega) (by omega) (congrArg Prod.snd e))
  · obtain ⟨a, ma, rfl⟩ := List.mem_map.mp m
    obtain ⟨b, mb, e⟩ := List.mem_map.mp m2
    have ha := lt a ma
    have hb := lt b mb
    have e1 := nm_inj ok.2.1 (by omega) (by omega) (congrArg Prod.fst e)
    have e2 := nm_inj ok.2.1 (by omega) (by omega) (congrArg Prod.snd e)
    omega
theorem DsP.part {rs : List Str} {E q r : List (Str × Str)} (h : DsP rs E) (p : (q ++ r).Perm E) : DsP rs q := by
  have sub : ∀ d ∈ q, d ∈ E := fun d m => p.mem_iff.mp (List.mem_append_left _ m)
  exact ⟨fun d m => h.1 d (sub d m), (List.nodup_append.mp (p.nodup_iff.mpr h.2.1)).1, fun d m m2 => h.2.2 d (sub d m) (sub _ m2)⟩
theorem DsP.snoc {rs : List Str} {q l : List (Str × Str)} {i : Nat} (hq : DsP rs q) (hi : i < q.length) (h : DsP rs l) (hs : ∀ x ∈ l, x ∈ q.take i ∨ swp x ∈ q.take i) {y : Str × Str} (hy : y = q[i] ∨ y = swp q[i]) : DsP rs (l ++ [y]) ∧ ∀ x ∈ l ++ [y], x ∈ q.take (i + 1) ∨ swp x ∈ q.take (i + 1) := by
  have ht : q.take (i + 1) = q.take i ++ [q[i]] := by rw [List.take_add_one, List.getElem?_eq_getElem hi]; rfl
  have mi : q[i] ∈ q := List.getElem_mem hi
  have n1 : q[i] ∉ q.take i := fun m => by
    obtain ⟨j, hj, e⟩ := List.mem_take_iff_getElem.mp m
    have := (List.getElem_inj hq.2.1).mp e
    omega
  have n2 : swp q[i] ∉ q.take i := fun m => hq.2.2 _ mi (List.mem_of_mem_take m)
  have ss : ∀ d, swp (swp d) = d := fun _ => rfl
  have yn : ∀ x, (x ∈ q.take i ∨ swp x ∈ q.take i) → x ≠ y ∧ x ≠ swp y := fun x hx => by
    constructor
    · rintro rfl
      rcases hy with e | e <;> rw [e] at hx <;> rcases hx with m | m
      · exact n1 m
      · exact n2 m
      · exact n2 m
      · exact n1 m
    · rintro rfl
      rcases hy with e | e <;> rw [e] at hx <;> rcases hx with m | m
      · exact n2 m
      · exact n1 m
      · exact n1 m
      · exact n2 m
  have qi := hq.1 _ mi
  have yb : y.1 ∈ rs ∧ y.2 ∈ rs ∧ y.1 ≠ y.2 := by
    rcases hy with e | e <;> rw [e]
    · exact qi
    · exact ⟨qi.2.1, qi.1, fun e => qi.2.2 e.symm⟩
  refine ⟨⟨fun d m => ?_, List.nodup_append.mpr ⟨h.2.1, by simp, fun a ma b mb e => ?_⟩, fun d m m2 => ?_⟩, fun x m => ?_⟩
  · rcases List.mem_append.mp m with m | m
    · exact h.1 d m
    · rw [List.mem_singleton.mp m]; exact yb
  · rw [List.mem_singleton] at mb
    subst mb
    exact (yn a (hs a ma)).1 e
  · rcases List.mem_append.mp m with m3 | m3 <;> rcases List.mem_append.mp m2 with m4 | m4
    · exact h.2.2 d m3 m4
    · have := List.mem_singleton.mp m4
      exact (yn d (hs d m3)).2 (by rw [← this]; rfl)
    · have := List.mem_singleton.mp m3
      rw [this] at m4
      exact (yn _ (hs _ m4)).2 rfl
    · have e1 := List.mem_singleton.mp m3
      have e2 := List.mem_singleton.mp m4
      rw [e1] at e2
      exact yb.2.2 (congrArg Prod.snd e2)
  · rw [ht]
    rcases List.mem_append.mp m with m | m
    · exact (hs x m).imp (List.mem_append_left _) (List.mem_append_left _)
    · rw [List.mem_singleton.mp m]
      rcases hy with e | e <;> rw [e]
      · exact .inl (List.mem_append_right _ (List.mem_singleton.mpr rfl))
      · exact .inr (List.mem_append_right _ (List.mem_singleton.mpr rfl))
theorem perm_two {a b : Str} {o : List Str} (p : o.Perm [a, b]) : o = [a, b] ∨ o = [b, a] := by
  match o, p.length_eq, p with
  | [x, y], _, p =>
    have hx := p.mem_iff.mp (List.mem_cons_self (a := x) (l := [y]))
    rcases List.mem_cons.mp hx with e | e
    · subst e
      have := (List.perm_cons _).mp p
      rw [List.perm_singleton.mp this]
      exact .inl rfl
    · have e := List.mem_singleton.mp e
      subst e
      have p2 := p.trans (List.Perm.swap x a [])
      have := (List.perm_cons _).mp p2
      rw [List.perm_singleton.mp this]
      exact .inr rfl
theorem kp__law_house {S : Sps} {C : Nat} (h1 : S._law_take = spTake) (h2 : S._law_some = spSome) (h3 : S._law_names = spNames) : keeps [.io, .fz] 17 spDraw (w__law_house S C) := by
  refine keeps_i fun ds Q E hs hl K hn hr => ?_
  obtain ⟨p, k, u, rfl, pk, hk, u1, u2, q⟩ := hs
  unfold w__law_house
  refine seq_i fun N hN => ?_
  simp [h1]
  refine ⟨p, k, u, rfl, pk, by omega, by omega, by omega, fun m p1 m0 m1 pk1 => ?_⟩
  obtain ⟨m, rfl⟩ := Int.eq_ofNat_of_zero_le m0
  obtain ⟨n, en⟩ : ∃ n : Nat, n = 1 + m := ⟨_, rfl⟩
  have en2 : (1 + (m : Int)) = (n : Int) := by omega
  simp [en2]
  refine ⟨p1, _, 6, rfl, pk1, by omega, by decide, by decide, fun w p2 w0 w1 pk2 => ?_⟩
  simp
  refine hN _ ?_
  refine seq_i fun N hN => ?_
  simp [h3]
  refine ⟨p2, _, n, rfl, pk2, by omega, by omega, by omega, fun rs p3 ln ok pk3 => ?_⟩
  simp
  refine hN _ ?_
  refine seq_i fun N hN => ?_
  have b1 : (n : Int) < 2 ^ 62 := by omega
  refine forW (List.range n) intD (fun P h => by simp; rw [rangeD0]; exact ⟨b1, h⟩) (fun i ρ => ∃ (p' : D) (P : List (Nat × Nat)) (a b c d e f g : Sl), ρ = [.io 0 p', .fz (.int u), .fz (.int n), .fz (.int w), .fz (.tup (rs.map .str)), .ow (.lst (P.map (pairT rs))), a, b, c, d, e, f, g, .un, .un, .un, .un] ∧ PotOk (k + 502 + 40 * i) p' ∧ PI i 0 P ∧ P.length ≤ 20 * i) ⟨p3, [], _, _, _, _, _, _, _, rfl, pk3.le (by omega), ⟨List.nodup_nil, fun p m => by cases m⟩, Nat.zero_le _⟩ (fun i hi ρ N1 hW hN1 => ?_) (fun ρ hW => hN _ ?_)
  · obtain ⟨p', P, a, b, c, d, e, f, g, rfl, pk', pi, pl⟩ := hW
    have hi : i < n := by simpa using hi
    rw [List.getElem_range]
    simp only [gN, List.set_cons_succ, List.set_cons_zero]
    have b2 : (i : Int) < 2 ^ 62 := by omega
    refine forW (List.range i) intD (fun P h => by simp [intD]; rw [rangeD0]; exact ⟨b2, h⟩) (fun j ρ => ∃ (p' : D) (P : List (Nat × Nat)) (b c d e f g : Sl), ρ = [.io 0 p', .fz (.int u), .fz (.int n), .fz (.int w), .fz (.tup (rs.map .str)), .ow (.lst (P.map (pairT rs))), .fz (.int i), b, c, d, e, f, g, .un, .un, .un, .un] ∧ PotOk (k + 502 + 40 * i + 2 * j) p' ∧ PI i j P ∧ P.length ≤ 20 * i + j) ⟨p', P, _, _, _, _, _, _, rfl, pk', pi, pl⟩ (fun j hj ρ N2 hW hN2 => ?_) (fun ρ hW => ?_)
    · obtain ⟨p', P, b, c, d, e, f, g, rfl, pk', pi, pl⟩ := hW
      have hj : j < i := by simpa using hj
      rw [List.getElem_range]
      simp only [gN, List.set_cons_succ, List.set_cons_zero]
      refine seq_i fun N hN => ?_
      simp [intD]
      refine hN _ ?_
      have hx : ∃ x : Int, (2 + if (8 : Int) < (n : Int) then (1 : Int) else 0) = x ∧ 0 < x := ⟨_, rfl, by split <;> omega⟩
      obtain ⟨x, ex, x0⟩ := hx
      simp only [ex]
      refine seq_i fun N hN => ?_
      have key : ∀ b9 : Bool, N [.io 0 p', .fz (.int u), .fz (.int n), .fz (.int w), .fz (.tup (rs.map .str)), .ow (.lst (P.map (pairT rs))), .fz (.int i), .fz (.int j), .fz (.int x), .fz (.bl b9), e, f, g, .un, .un, .un, .un] := fun b9 => by
        refine hN _ ?_
        refine seq_i fun N hN => ?_
        simp [good_ii, Pu.good_int]
        refine hN _ ?_
        generalize ((i : Int) - (j : Int) == 1) = b10
        generalize (decide (1 = (i : Int) - (j : Int)) || decide ((n : Int) - 1 = (i : Int) - (j : Int))) = b11
        refine seq_i fun N hN => ?_
        simp [h1]
        refine ⟨p', _, 2, rfl, pk', by omega, by decide, by decide, fun t p4 _ _ pk4 => ?_⟩
        simp [kIx.kIxS]
        rw [(at_six w0 w1).choose_spec]
        generalize (at_six w0 w1).choose = y
        simp
        refine hN _ ?_
        have hir : i < rs.length := by omega
        have hjr : j < rs.length := by omega
        have sz : P.length + 1 ≤ sizeLine := Nat.le_trans (show P.length + 1 ≤ 1000 by omega) (by decide)
        have app : N2 [.io 0 p4, .fz (.int u), .fz (.int n), .fz (.int w), .fz (.tup (rs.map .str)), .ow (.lst (P.map (pairT rs) ++ [.tup [.str (nm rs j), .str (nm rs i)]])), .fz (.int i), .fz (.int j), .fz (.int x), .fz (.bl b9), .fz (.bl b10), .fz (.bl b11), .fz (.bl y), .un, .un, .un, .un] := by
          refine hN2 _ ⟨p4, P ++ [(j, i)], .fz (.int j), _, _, _, _, _, by rw [List.map_append]; rfl, pk4.le (by omega), pi.snoc hj, by rw [List.length_append]; simp; omega⟩
        have same : N2 [.io 0 p4, .fz (.int u), .fz (.int n), .fz (.int w), .fz (.tup (rs.map .str)), .ow (.lst (P.map (pairT rs))), .fz (.int i), .fz (.int j), .fz (.int x), .fz (.bl b9), .fz (.bl b10), .fz (.bl b11), .fz (.bl y), .un, .un, .un, .un] := by
          refine hN2 _ ⟨p4, P, .fz (.int j), _, _, _, _, _, rfl, pk4.le (by omega), pi.same, by omega⟩
        have app2 : ∀ p5, PotOk (k + 502 + 40 * i + 2 * j + 2) p5 → N2 [.io 0 p5, .fz (.int u), .fz (.int n), .fz (.int w), .fz (.tup (rs.map .str)), .ow (.lst (P.map (pairT rs) ++ [.tup [.str (nm rs j), .str (nm rs i)]])), .fz (.int i), .fz (.int j), .fz (.int x), .fz (.bl b9), .fz (.bl b10), .fz (.bl b11), .fz (.bl y), .un, .un, .un, .un] := fun p5 pk5 => by
          refine hN2 _ ⟨p5, P ++ [(j, i)], .fz (.int j), _, _, _, _, _, by rw [List.map_append]; rfl, pk5.le (by omega), pi.snoc hj, by rw [List.length_append]; simp; omega⟩
        have same2 : ∀ p5, PotOk (k + 502 + 40 * i + 2 * j + 2) p5 → N2 [.io 0 p5, .fz (.int u), .fz (.int n), .fz (.int w), .fz (.tup (rs.map .str)), .ow (.lst (P.map (pairT rs))), .fz (.int i), .fz (.int j), .fz (.int x), .fz (.bl b9), .fz (.bl b10), .fz (.bl b11), .fz (.bl y), .un, .un, .un, .un] := fun p5 pk5 => by
          refine hN2 _ ⟨p5, P, .fz (.int j), _, _, _, _, _, rfl, pk5.le (by omega), pi.same, by omega⟩
        have sz0 : P.length ≤ sizeLine := by omega
        cases y with
        | true =>
          simp [h1, kIx.kIxS, at_rs hir, at_rs hjr]
          exact ⟨sz, app⟩
        | false =>
          by_cases hw : w = 4
          · subst hw
            simp [h1]
            refine ⟨p4, _, 5, rfl, pk4, by omega, by decide, by decide, fun t p5 _ _ pk5 => ?_⟩
            simp [kIx.kIxS, at_rs hir, at_rs hjr]
            exact ite_i ⟨sz, app2 p5 pk5⟩ ⟨sz0, same2 p5 pk5⟩
          · simp [h1, hw]
            refine ⟨p4, _, 12, rfl, pk4, by omega, by decide, by decide, fun t p5 _ _ pk5 => ?_⟩
            simp [kIx.kIxS, at_rs hir, at_rs hjr]
            exact ite_i ⟨sz, app2 p5 pk5⟩ ⟨sz0, same2 p5 pk5⟩
      simp
      exact ite_i (key _) (ite_i ⟨x0, key _⟩ (key _))
    · obtain ⟨p', P, b, c, d, e, f, g, rfl, pk', pi, pl⟩ := hW
      rw [List.length_range] at pl pk' pi
      refine hN1 _ ⟨p', P, _, _, _, _, _, _, _, rfl, pk'.le (by omega), pi.next, by omega⟩
  · obtain ⟨p', P, a, b, c, d, e, f, g, rfl, pk', pi, pl⟩ := hW
    rw [List.length_range] at pl pk' pi
    refine seq_i fun N hN => ?_
    simp [h2]
    refine ⟨p', .tup (rs.map .str), _, rs.map .str, n, rfl, rfl, pk', by omega, by rw [List.length_map]; omega, by rw [List.length_map]; omega, fun out rest p4 pm ho pk4 => ?_⟩
    obtain ⟨o, r, rfl, rfl, pm2⟩ := perm_strs pm
    rw [List.length_map] at ho
    have pf := perm_full pm2 (by omega)
    have oko : RsOk o := ⟨fun x mx => ok.1 x (pf.mem_iff.mp mx), pf.nodup_iff.mpr ok.2.1, by omega, by omega⟩
    simp
    refine hN _ ?_
    refine seq_i fun N hN => ?_
    have eP : P.map (pairT rs) = (P.map (nmP rs)).map pT := by rw [List.map_map]; rfl
    have dP := PI.dsp (i := 0) ok (ln ▸ pi)
    simp only [wSet]
    refine wLc_eq ?_
    simp [h2, eP]
    rw [← List.map_map]
    have emin : (if (P.length : Int) < 60 then (P.length : Int) else 60) = ((min P.length 60 : Nat) : Int) := by split <;> omega
    simp only [emin]
    refine ⟨p4, .lst ((P.map (nmP rs)).map pT), _, (P.map (nmP rs)).map pT, min P.length 60, rfl, rfl, pk4, by omega, by rw [List.length_map, List.length_map]; omega, by rw [List.length_map, List.length_map]; omega, fun out rest p5 pm hq5 pk5 => ?_⟩
    obtain ⟨l', e1, pm3⟩ := perm_map (g := unP) (f := pT) (fun _ => rfl) pm
    obtain ⟨qs, r2, e2, e3, e4⟩ := List.append_eq_map_iff.mp e1
    subst e2 e3
    have dq := dP.part pm3
    rw [List.length_map] at hq5
    have ql : qs.length ≤ 60 := by omega
    simp
    refine lcW' [.io 0 p5, .fz (.int u), .fz (.int n), .fz (.int w), .fz (.tup (rs.map .str)), .fz (.lst ((P.map (nmP rs)).map pT)), a, b, c, d, e, f, g, .ow (.lst (o.map .str)), .un, .un, .un] qs pT (fun P h => by simpa using h) (fun i acc ρ' => ∃ (p' : D) (l : List (Str × Str)), ρ' = [.io 0 p', .fz (.int u), .fz (.int n), .fz (.int w), .fz (.tup (rs.map .str)), .fz (.lst ((P.map (nmP rs)).map pT)), a, b, c, d, e, f, g, .ow (.lst (o.map .str)), .un, .un, .un] ∧ PotOk (k + 3000 + 2 * i) p' ∧ acc = l.map lT ∧ l.length = i ∧ DsP rs l ∧ ∀ x ∈ l, x ∈ qs.take i ∨ swp x ∈ qs.take i) ⟨p5, [], rfl, pk5.le (by omega), rfl, rfl, ⟨by simp, by simp, by simp⟩, by simp⟩ (fun i hi acc ρ' PP hW hP => ?_) (fun acc ρ' hW => ?_)
    · obtain ⟨p', l, rfl, pk', rfl, hl, dl, tl⟩ := hW
      simp [h2]
      refine ⟨p', pT qs[i], _, [.str qs[i].1, .str qs[i].2], 2, rfl, rfl, pk', by omega, by simp, by simp, fun out rest p6 pm ho pk6 => ?_⟩
      obtain ⟨o2, r3, rfl, rfl, pm4⟩ := perm_strs (l := [qs[i].1, qs[i].2]) pm
      rw [List.length_map] at ho
      have o3 := perm_two (perm_full pm4 ho)
      obtain ⟨y, hy, ey⟩ : ∃ y : Str × Str, (y = qs[i] ∨ y = swp qs[i]) ∧ o2 = [y.1, y.2] := by
        rcases o3 with e | e
        · exact ⟨qs[i], .inl rfl, e⟩
        · exact ⟨swp qs[i], .inr rfl, e⟩
      subst ey
      obtain ⟨dl2, tl2⟩ := dq.snoc hi dl tl hy
      simp
      refine hP _ _ ?_ ?_
      · rw [List.length_map, hl]
        exact Nat.lt_of_lt_of_le (show i < 60 by omega) (by decide)
      · exact ⟨p6, l ++ [y], by simp, pk6.le (by omega), by rw [List.map_append]; rfl, by rw [List.length_append, hl]; rfl, dl2, tl2⟩
    · obtain ⟨p', l, rfl, pk', rfl, hl, dl, tl⟩ := hW
      simp
      refine hN _ ?_
      simp only [wRet, wTup, vsC, vsN, wB, rsC, rsN, rE, rN]
      simp
      have sz : l.length ≤ sizeLine := Nat.le_trans (show l.length ≤ 60 by omega) (by decide)
      refine lcM' [.io 0 p', .fz (.int u), .fz (.int n), .fz (.int w), .fz (.tup (rs.map .str)), .fz (.lst (P.map (pT ∘ nmP rs))), a, b, c, d, e, f, g, .ow (.lst (o.map .str)), .fz (.lst (l.map lT)), .un, .un] l lT pT (fun P h => by simpa using h) sz (fun x m P h => ?_) ?_
      · simp [lT]
        simpa [pT] using h
      · simp
        refine hr _ _ ?_
        have dl' : DsOk o l := ⟨fun x m => by
          have := dl.1 x m
          exact ⟨pf.mem_iff.mpr this.1, pf.mem_iff.mpr this.2.1, this.2.2⟩, dl.2.1, dl.2.2, by omega⟩
        have := q o l p' oko (by omega) dl' (pk'.le (by omega))
        have e : prs l = l.map pT := rfl
        simpa [houseT, e] using this
end K01

set_option Elab.async false
set_option linter.all false
set_option maxRecDepth 100000
set_option maxHeartbeats 2000000
namespace K01
open PySem L2 PySem.Spec PyProof.Rows Pu TL
def linesS (rs : List Str) (ds : List (Str × Str)) : List Str := rs.map roomLine ++ ds.map fun d => doorLine d.1 d.2
theorem room_eq (x : Str) : ("room " : Str) ++ x = roomLine x := by
  have e : ("room " : Str) = "room" ++ " " := by decide +kernel
  refine ext_tl ?_
  unfold roomLine
  rw [e]
  simp only [tl_append, List.append_assoc]
theorem door_eq (x y : Str) : Txt.join " " ["door", x, y] = doorLine x y := by
  refine ext_tl ?_
  rw [join_eq, tl_join]
  unfold doorLine
  simp only [tl_append, List.append_assoc, List.map_cons, List.map_nil]
  rfl
theorem ln_room {x : Str} (h : OkName x) : (10 : Nat) ∉ tl (roomLine x) ∧ (tl (roomLine x)).length ≤ 30 := by
  unfold roomLine
  rw [tl_append, tl_append, room_tl, sp_tl]
  have n1 : (10 : Nat) ∉ tl x := fun m => by
    have := List.all_eq_true.mp h.all 10 m
    simp at this
  have := h.few
  refine ⟨by simp [n1], by simp only [List.length_append, List.length_cons, List.length_nil]; omega⟩
theorem ln_door {x y : Str} (h : OkName x) (h' : OkName y) : (10 : Nat) ∉ tl (doorLine x y) ∧ (tl (doorLine x y)).length ≤ 30 := by
  unfold doorLine
  rw [tl_append, tl_append, tl_append, tl_append, door_tl, sp_tl]
  have n1 : (10 : Nat) ∉ tl x := fun m => by
    have := List.all_eq_true.mp h.all 10 m
    simp at this
  have n2 : (10 : Nat) ∉ tl y := fun m => by
    have := List.all_eq_true.mp h'.all 10 m
    simp at this
  have := h.few
  have := h'.few
  refine ⟨by simp [n1, n2], by simp only [List.length_append, List.length_cons, List.length_nil]; omega⟩
theorem joinL_len (S : List Nat) : ∀ parts : List (List Nat), (joinL S parts).length ≤ (parts.map fun p => p.length + S.length).sum
  | [] => Nat.le_refl _
  | [p] => by
    show p.length ≤ _
    simp
  | p :: q :: r => by
    have := joinL_len S (q :: r)
    show (p ++ (S ++ joinL S (q :: r))).length ≤ _
    rw [List.length_append, List.length_append, List.map_cons, List.sum_cons]
    omega
theorem sum_le_c {α : Type} (f : α → Nat) (c : Nat) : ∀ l : List α, (∀ a ∈ l, f a ≤ c) → (l.map f).sum ≤ c * l.length
  | [], _ => Nat.le_refl _
  | a :: l, h => by
    have := sum_le_c f c l fun b m => h b (List.mem_cons_of_mem _ m)
    have := h a (List.mem_cons_self ..)
    rw [List.map_cons, List.sum_cons, List.length_cons, Nat.mul_succ]
    omega
section
variable {rs : List Str} {ds : List (Str × Str)}
theorem line_all (ok : RsOk rs) (po : DsOk rs ds) : ∀ l ∈ linesS rs ds, (10 : Nat) ∉ tl l ∧ (tl l).length ≤ 30 := fun l m => by
  rcases List.mem_append.mp m with m | m
  · obtain ⟨x, mx, rfl⟩ := List.mem_map.mp m
    exact ln_room (ok.1 x mx)
  · obtain ⟨d, md, rfl⟩ := List.mem_map.mp m
    have := po.1 d md
    exact ln_door (ok.1 _ this.1) (ok.1 _ this.2.1)
theorem lines_len (ok : RsOk rs) (po : DsOk rs ds) : (linesS rs ds).length ≤ 76 := by
  unfold linesS
  rw [List.length_append, List.length_map, List.length_map]
  have := ok.2.2.2
  have := po.2.2.2
  omega
theorem text_ok (ok : RsOk rs) (po : DsOk rs ds) : LinesOk (Txt.join "\n" (linesS rs ds)) rs ds := by
  have nl : tl ("\n" : Str) = [10] := by decide +kernel
  have ln := lines_len ok po
  have la := line_all ok po
  refine ⟨?_, ?_, ok.1, ok.2.1, ok.2.2.2, po.2.2.2, po.1, po.2.1, po.2.2.1⟩
  · rw [split_join nl (by decide +kernel) ?_ fun p m => (la p m).1]
    · rfl
    · intro e
      have h1 := ok.2.2.1
      have h2 := congrArg List.length e
      unfold linesS at h2
      rw [List.length_append, List.length_map] at h2
      have h3 : ([] : List Str).length = 0 := rfl
      omega
  · have h1 : (tl (Txt.join "\n" (linesS rs ds))).length ≤ 40 * 76 := by
      rw [join_eq, tl_join, nl]
      refine Nat.le_trans (joinL_len _ _) ?_
      refine Nat.le_trans (sum_le_c _ 40 _ fun p m => ?_) ?_
      · obtain ⟨l, ml, rfl⟩ := List.mem_map.mp m
        have := (la l ml).2
        show (tl l).length + 1 ≤ 40
        omega
      · rw [List.length_map]
        exact Nat.mul_le_mul_left _ ln
    have h1 : (Txt.join "\n" (linesS rs ds)).length ≤ 40 * 76 := h1
    exact Nat.le_trans (Nat.add_le_add_right h1 2) (by decide)
end
theorem _root_.Pu.OkName.len {x : Str} (h : OkName x) : x.length ≤ 8 := h.few
theorem len_room : (Str.ofString "room ").length = 5 := by decide +kernel
theorem len_door : (Str.ofString "door").length = 4 := by decide +kernel
theorem len_sp : (Str.ofString " ").length = 1 := by decide +kernel
theorem len_nl : (Str.ofString "\n").length = 1 := by decide +kernel
def spText : DSp := fun dd Q _ => ∃ rs ds, dd = [.tup (rs.map .str), .tup (prs ds)] ∧ RsOk rs ∧ DsOk rs ds ∧ ∀ text, LinesOk text rs ds → Q (.fz (.str text)) [.non, .non]
theorem kp__law_text {S : Sps} {C : Nat} : keeps [.fz, .fz] 4 spText (w__law_text S C) := by
  refine keeps_i fun dd Q E hs hl K hn hr => ?_
  obtain ⟨rs, ds, rfl, ok, po, q⟩ := hs
  unfold w__law_text
  simp only [wRet, wMt, rE, wC, rsC, rsN, wOp]
  simp
  refine lcM rs D.str (fun x => D.str (roomLine x)) (fun P h => by simpa using h) (len_sz ok.2.2.2) (fun x m P h => ?_) ?_
  · have := (ok.1 x m).len
    have sz : 100 < sizeLine := by decide
    simp [room_eq, len_room]
    refine ⟨by omega, ?_⟩
    simpa using h
  · simp
    refine lcM ds (fun d => .tup [.str d.1, .str d.2]) (fun d => D.str (doorLine d.1 d.2)) (fun P h => by simpa [prs] using h) (Nat.le_trans po.2.2.2 (by decide)) (fun d m P h => ?_) ?_
    · have hp := po.1 d m
      have l1 := (ok.1 _ hp.1).len
      have l2 := (ok.1 _ hp.2.1).len
      have sz : 100 < sizeLine := by decide
      simp [strsOf, door_eq, len_door, len_sp]
      exact ⟨by decide, by omega, by simpa using h⟩
    · have ln := lines_len ok po
      have la := line_all ok po
      have e : (rs.map fun x => D.str (roomLine x)) ++ (ds.map fun d => D.str (doorLine d.1 d.2)) = (linesS rs ds).map D.str := by
        unfold linesS
        rw [List.map_append, List.map_map, List.map_map]
        rfl
      have ll : rs.length + ds.length ≤ sizeLine := by
        have := ok.2.2.2
        have := po.2.2.2
        exact Nat.le_trans (show _ ≤ 76 by omega) (by decide)
      simp [e, strsOf_map, len_nl]
      refine ⟨ll, ?_, hr _ _ ?_⟩
      · have := sum_le_c (fun x : Str => x.length) 30 (linesS rs ds) fun l m => (la l m).2
        omega
      · have := q _ (text_ok ok po)
        simpa using this
/-! places of names -/
def ix (rs : List Str) (x : Str) : Nat := rs.idxOf x
theorem ix_lt {rs : List Str} {x : Str} (h : x ∈ rs) : ix rs x < rs.length := List.idxOf_lt_length_of_mem h
theorem nm_ix {rs : List Str} {x : Str} (h : x ∈ rs) : nm rs (ix rs x) = x := by
  unfold nm ix
  rw [List.getElem?_eq_getElem (List.idxOf_lt_length_of_mem h)]
  exact List.getElem_idxOf _
theorem ix_nm {rs : List Str} (nd : rs.Nodup) {i : Nat} (h : i < rs.length) : ix rs (nm rs i) = i :=
  nm_inj nd (ix_lt (nm_mem h)) h (nm_ix (nm_mem h))
theorem nm_in {rs : List Str} (ok : RsOk rs) {i : Nat} (h : nm rs i ∈ rs) : i < rs.length := by
  rcases Nat.lt_or_ge i rs.length with h2 | h2
  · exact h2
  · have e : nm rs i = default := by unfold nm; rw [List.getElem?_eq_none h2]; rfl
    rw [e] at h
    have := (ok.1 _ h).1
    exact absurd this (by decide)
def adjS (rs : List Str) (ds : List (Str × Str)) (i j : Nat) : Bool := decide ((nm rs i, nm rs j) ∈ ds) || decide ((nm rs j, nm rs i) ∈ ds)
theorem adjS_iff {rs : List Str} {ds : List (Str × Str)} {i j : Nat} : adjS rs ds i j = true ↔ (nm rs i, nm rs j) ∈ ds ∨ (nm rs j, nm rs i) ∈ ds := by
  unfold adjS
  rw [Bool.or_eq_true, decide_eq_true_iff, decide_eq_true_iff]
theorem adjS_symm {rs : List Str} {ds : List (Str × Str)} (i j : Nat) : adjS rs ds i j = adjS rs ds j i := by
  unfold adjS
  rw [Bool.or_comm]
theorem hou_of {C : Nat} {text : Str} {rs : List Str} {ds told : List (Str × Str)} (ok : RsOk rs) (po : DsOk rs ds) (t : Told ds told) : Hou C rs (adjS rs ds) (houD C text rs told) := by
  obtain ⟨fl, hf, pm⟩ := t
  have el : ∀ d ∈ told, d ∈ ds ∨ (d.2, d.1) ∈ ds := fun d m => by
    rw [pm.mem_iff, List.mem_map] at m
    obtain ⟨e, me, rfl⟩ := m
    rcases hf e me with h | h <;> rw [h]
    · exact .inl me
    · exact .inr me
  have lt : ∀ d ∈ told, d.1 ∈ rs ∧ d.2 ∈ rs ∧ d.1 ≠ d.2 := fun d m => by
    rcases el d m with h | h
    · exact po.1 _ h
    · have := po.1 _ h
      exact ⟨this.2.1, this.1, fun e => this.2.2 e.symm⟩
  have le : ∀ d ∈ ds, d ∈ told ∨ (d.2, d.1) ∈ told := fun d m => by
    have := pm.mem_iff.mpr (List.mem_map.mpr ⟨d, m, rfl⟩)
    rcases hf d m with h | h <;> rw [h] at this
    · exact .inl this
    · exact .inr this
  refine ⟨text, told, told.map fun d => (ix rs d.1, ix rs d.2), rfl, ?_, ?_, ?_⟩
  · rw [List.map_map]
    have : ∀ d ∈ told, ((fun p : Nat × Nat => (nm rs p.1, nm rs p.2)) ∘ fun d : Str × Str => (ix rs d.1, ix rs d.2)) d = id d := fun d m => by
      have := lt d m
      show (nm rs (ix rs d.1), nm rs (ix rs d.2)) = d
      rw [nm_ix this.1, nm_ix this.2.1]
    rw [List.map_congr_left this, List.map_id]
  · intro q m
    obtain ⟨d, md, rfl⟩ := List.mem_map.mp m
    have := lt d md
    refine ⟨ix_lt this.1, ix_lt this.2.1, fun e => this.2.2 ?_⟩
    have e := congrArg (nm rs) e
    rwa [nm_ix this.1, nm_ix this.2.1] at e
  · intro i j
    rw [adjS_iff]
    have mm : ∀ i j, (nm rs i, nm rs j) ∈ told → (i, j) ∈ told.map (fun d => (ix rs d.1, ix rs d.2)) := fun i j m => by
      have := lt _ m
      refine List.mem_map.mpr ⟨_, m, ?_⟩
      show (ix rs (nm rs i), ix rs (nm rs j)) = _
      rw [ix_nm ok.2.1 (nm_in ok this.1), ix_nm ok.2.1 (nm_in ok this.2.1)]
    have mb : ∀ i j, (i, j) ∈ told.map (fun d => (ix rs d.1, ix rs d.2)) → (nm rs i, nm rs j) ∈ told := fun i j m => by
      obtain ⟨d, md, e⟩ := List.mem_map.mp m
      have := lt d md
      cases e
      rw [nm_ix this.1, nm_ix this.2.1]
      exact md
    constructor
    · rintro (m | m)
      · exact (le _ m).imp (mm _ _) (mm _ _)
      · exact ((le _ m).imp (mm _ _) (mm _ _)).symm
    · rintro (m | m)
      · exact el _ (mb _ _ m)
      · exact (el _ (mb _ _ m)).symm
end K01

set_option Elab.async false
set_option linter.all false
set_option maxRecDepth 100000
set_option maxHeartbeats 2000000
namespace K01
open PySem L2 PySem.Spec PyProof.Rows Pu TL
/-! values of any kind -/
def isS : D → Bool
  | .str _ => true
  | _ => false
def isT : D → Bool
  | .tup _ => true
  | _ => false
def tupS : D → Option (List Str)
  | .tup xs => strsOf xs
  | _ => none
def itOk (d : D) : Prop := (tyN d).isSome = true ∧ ∀ x, d = .str x → PyData.strOk x = true
def valOk (d : D) : Prop := (tyN d).isSome = true ∧ ∀ xs, d = .tup xs → xs.length ≤ 1000 ∧ ∀ x ∈ xs, itOk x
theorem ty_str {d : D} (h : (tyN d).isSome = true) : ∃ n, tyN d = some n ∧ kitB n "str" = some (isS d) := by
  cases d with
  | non => exact ⟨_, rfl, by decide +kernel⟩
  | bl _ => exact ⟨_, rfl, by simp only [isS]; decide +kernel⟩
  | int _ => exact ⟨_, rfl, by simp only [isS]; decide +kernel⟩
  | str _ => exact ⟨_, rfl, by simp only [isS]; decide +kernel⟩
  | tup _ => exact ⟨_, rfl, by simp only [isS]; decide +kernel⟩
  | lst _ => exact ⟨_, rfl, by simp only [isS]; decide +kernel⟩
  | dic _ _ => exact ⟨_, rfl, by simp only [isS]; decide +kernel⟩
  | _ => cases h
theorem ty_tup {d : D} (h : (tyN d).isSome = true) : ∃ n, tyN d = some n ∧ kitB n "tuple" = some (isT d) := by
  cases d with
  | non => exact ⟨_, rfl, by decide +kernel⟩
  | bl _ => exact ⟨_, rfl, by simp only [isT]; decide +kernel⟩
  | int _ => exact ⟨_, rfl, by simp only [isT]; decide +kernel⟩
  | str _ => exact ⟨_, rfl, by simp only [isT]; decide +kernel⟩
  | tup _ => exact ⟨_, rfl, by simp only [isT]; decide +kernel⟩
  | lst _ => exact ⟨_, rfl, by simp only [isT]; decide +kernel⟩
  | dic _ _ => exact ⟨_, rfl, by simp only [isT]; decide +kernel⟩
  | _ => cases h
theorem allS : ∀ {xs : List D}, xs.all isS = true → ∃ l : List Str, xs = l.map .str
  | [], _ => ⟨[], rfl⟩
  | .str x :: xs, h => by
    obtain ⟨l, e⟩ := allS (xs := xs) (by simpa [isS] using h)
    exact ⟨x :: l, by rw [e]; rfl⟩
  | .non :: _, h | .bl _ :: _, h | .int _ :: _, h | .tup _ :: _, h | .lst _ :: _, h | .dic _ _ :: _, h | .ins _ _ _ :: _, h | .scr _ :: _, h | .fn _ :: _, h | .ttp _ :: _, h | .at _ _ :: _, h => by simp [isS] at h
theorem strsN : ∀ {xs : List D}, xs.all isS = false → strsOf xs = none
  | [], h => by cases h
  | .str x :: xs, h => by
    have := strsN (xs := xs) (by simpa [isS] using h)
    unfold strsOf
    rw [this]
  | .non :: _, _ | .bl _ :: _, _ | .int _ :: _, _ | .tup _ :: _, _ | .lst _ :: _, _ | .dic _ _ :: _, _ | .ins _ _ _ :: _, _ | .scr _ :: _, _ | .fn _ :: _, _ | .ttp _ :: _, _ | .at _ _ :: _, _ => rfl
theorem tup_of : ∀ {v : D}, isT v = true → ∃ xs, v = .tup xs
  | .tup xs, _ => ⟨xs, rfl⟩
theorem tupN {v : D} (h : isT v = false) : tupS v = none := by
  cases v <;> first | rfl | cases h
/-- what a value is, in three -/
theorem val_cases {v : D} (h : valOk v) : (isT v = false ∧ tupS v = none) ∨ (∃ xs, v = .tup xs ∧ xs.all isS = false ∧ tupS v = none ∧ xs.length ≤ 1000 ∧ ∀ x ∈ xs, itOk x) ∨ (∃ l : List Str, v = .tup (l.map .str) ∧ tupS v = some l ∧ l.length ≤ 1000 ∧ ∀ x ∈ l, PyData.strOk x = true) := by
  cases hT : isT v with
  | false => exact .inl ⟨rfl, tupN hT⟩
  | true =>
    obtain ⟨xs, rfl⟩ := tup_of hT
    obtain ⟨h1, h2⟩ := h.2 xs rfl
    cases hS : xs.all isS with
    | false => exact .inr (.inl ⟨xs, rfl, hS, strsN hS, h1, h2⟩)
    | true =>
      obtain ⟨l, rfl⟩ := allS hS
      refine .inr (.inr ⟨l, rfl, strsOf_map l, by simpa using h1, fun x m => (h2 (.str x) (List.mem_map.mpr ⟨x, m, rfl⟩)).2 x rfl⟩)
theorem good_tupO {l : List Str} (h : ∀ x ∈ l, PyData.strOk x = true) : (D.tup (l.map D.str)).good = true := good_tup (n := 0) (fun d m => by
  obtain ⟨x, mx, rfl⟩ := List.mem_map.mp m
  exact h x mx) fun d m => by rw [strs_py l d m]; exact Nat.le_refl _
theorem allS_strs (l : List Str) : (l.map D.str).all isS = true := by
  rw [List.all_map, List.all_eq_true]
  intro x _
  rfl
theorem beq_tups {a b : List Str} : beq (.tup (a.map .str)) (.tup (b.map .str)) = decide (a = b) := beq_by (nobs_strs a) (nobs_strs b) (by
  constructor
  · intro e
    have e : a.map D.str = b.map D.str := by simpa using e
    exact List.map_inj_right (fun x y h => by simpa using h) |>.mp e
  · rintro rfl; rfl)
def lotB (rs : List Str) (v : D) : Bool := match tupS v with
  | some l => decide (l = rs.filter fun x => decide (x ∈ l))
  | none => false
def spIsLotOf (C : Nat) : DSp := fun ds Q _ => ∃ rs A h v, ds = [h, v] ∧ Hou C rs A h ∧ RsOk rs ∧ valOk v ∧ Q (.fz (.bl (lotB rs v))) [.non, .non]
theorem thou {n : Nat} (h : n ≤ 1000) : n ≤ sizeLine := Nat.le_trans h (by decide)
theorem set_un {ρ : En} {k : Nat} (hk : ρ[k]? = some .un) : ρ.set k .un = ρ := by
  refine List.ext_getElem? fun i => ?_
  rw [List.getElem?_set]
  by_cases e : k = i
  · subst e
    have hl := (List.getElem?_eq_some_iff.mp hk).1
    rw [if_pos rfl, if_pos hl, hk]
  · rw [if_neg e]
theorem bs_all {α : Type} {j k : Nat} {te : WE} {E : EX} {ρ : En} {R : Bool → En → Prop} (its : List α) (it : α → D) (f : α → Bool) (wi : WI) (hi : ∀ P : List D → En → Prop, P (its.map it) ρ → wi E ρ P) (hk : ρ[k]? = some .un) (hl : its.length ≤ 1000)
    (hx : ∀ x ∈ its, ∀ Q : Sl → En → Prop, Q (.fz (.bl (f x))) (ρ.set k (.fz (it x))) → te noEX (ρ.set k (.fz (it x))) Q) (hR : R (its.all f) ρ) : tV (wB kAll (rsC (rE (wLc wi (gN k) tYes te [k])) rsN)) E ρ R := by
  have e := set_un hk
  simp only [tV, wB, rsC, rE, rsN]
  refine lcM its it (fun d => .bl (f d)) hi (thou hl) (fun x m P h => ?_) ?_
  · simp only [wipeE, gN, e]
    refine hx x m _ ?_
    simp only [Sl.fr, wipeE, List.set_set, e] at h ⊢
    exact h
  · simp [blsOf_m, e, hk]
    simpa [Function.comp_def] using hR
theorem isstr {k : Nat} {E : EX} {ρ : En} {Q : Sl → En → Prop} {x : D} (hx : itOk x) (h : ρ[k]? = some (.fz x)) (q : Q (.fz (.bl (isS x))) ρ) : wIsTy "str" (rN k) E ρ Q := by
  obtain ⟨n, s1, s2⟩ := ty_str hx.1
  simp [-tyN, h, s1, s2]
  exact q
theorem istup {k : Nat} {E : EX} {ρ : En} {R : Bool → En → Prop} {x : D} (hx : valOk x) (h : ρ[k]? = some (.fz x)) (q : R (isT x) ρ) : tV (wIsTy "tuple" (rN k)) E ρ R := by
  obtain ⟨n, s1, s2⟩ := ty_tup hx.1
  simp [-tyN, h, s1, s2]
  exact q
theorem isstr_all {j k : Nat} {E : EX} {ρ : En} {R : Bool → En → Prop} {xs : List D} (hj : ρ[j]? = some (.fz (.tup xs))) (hk : ρ[k]? = some .un) (hl : xs.length ≤ 1000) (hx : ∀ x ∈ xs, itOk x) (hR : R (xs.all isS) ρ) : tV (wB kAll (rsC (rE (wLc (iSq (wN j)) (gN k) tYes (wIsTy "str" (rN k)) [k])) rsN)) E ρ R :=
  bs_all (j := j) xs id isS _ (fun P h => by simpa [hj] using h) hk hl (fun x m Q q => isstr (hx x m) (by rw [List.getElem?_set_self (List.getElem?_eq_some_iff.mp hk).1]; rfl) q) hR
/-- the value's own look: a tuple of texts -/
theorem look_val {j k : Nat} {E : EX} {ρ : En} {R : Bool → En → Prop} {v : D} (hv : valOk v) (hj : ρ[j]? = some (.fz v)) (hk : ρ[k]? = some .un) (hR : R (!(tupS v).isSome) ρ) :
    Pu.tOr (Pu.tNot (tV (wIsTy "tuple" (rN j)))) (Pu.tNot (tV (wB kAll (rsC (rE (wLc (iSq (wN j)) (gN k) Pu.tYes (wIsTy "str" (rN k)) [k])) rsN)))) E ρ R := by
  simp only [Pu.tOr, Pu.tNot]
  refine istup hv hj ?_
  rcases val_cases hv with ⟨f1, f2⟩ | ⟨xs, rfl, f1, f2, f3, f4⟩ | ⟨l, rfl, f2, f3, f4⟩
  · rw [f1]
    rw [f2] at hR
    exact hR
  · refine isstr_all hj hk f3 f4 ?_
    rw [f1]
    rw [f2] at hR
    exact hR
  · refine isstr_all hj hk (by simpa using f3) (fun x m => ?_) ?_
    · obtain ⟨y, my, rfl⟩ := List.mem_map.mp m
      exact ⟨rfl, fun z e => by cases e; exact f4 y my⟩
    · rw [allS_strs]
      rw [f2] at hR
      exact hR
theorem kp_is_lot_of {S : Sps} {C : Nat} : keeps [.fz, .fz] 3 (spIsLotOf C) (w_is_lot_of S C) := by
  refine keeps_i fun ds Q E hs hl K hn hr => ?_
  obtain ⟨rs, A, h, v, rfl, ⟨text, told, tq, rfl, e1, e2, e3⟩, ok, hv, q⟩ := hs
  unfold w_is_lot_of
  refine seq_i fun N hN => ?_
  refine look_val hv rfl rfl ?_
  cases ht : tupS v with
  | none =>
    simp
    refine hr _ _ ?_
    simpa [lotB, ht] using q
  | some l =>
    rcases val_cases hv with ⟨f1, f2⟩ | ⟨xs, rfl, f1, f2, f3, f4⟩ | ⟨l', rfl, f2, f3, f4⟩
    · rw [f2] at ht; cases ht
    · rw [f2] at ht; cases ht
    · rw [f2] at ht
      cases ht
      have gl := good_tupO f4
      have gf : ∀ rs' : List Str, (∀ x ∈ rs', OkName x) → (D.tup (rs'.map D.str)).good = true := fun rs' h => good_tupO fun x m => (h x m).ok
      simp
      refine hN _ ?_
      unfold houD
      simp only [wRet, wOp, rN, wB, rsC, rE, rsN]
      simp
      refine lcB rs D.str (fun x => decide (x ∈ l)) D.str (fun P h => by simpa using h) (len_sz ok.2.2.2) (fun x m P N h1 h2 => ?_) ?_
      · simp [good_str (ok.1 x m).ok, gl, any_strs]
        by_cases hx : x ∈ l
        · simp [hx] at h1 ⊢
          exact h1
        · simp [hx] at h2 ⊢
          exact h2
      · simp
        refine ⟨gl, gf _ fun x m => ok.1 x (List.mem_filter.mp m).1, ?_⟩
        refine hr _ _ ?_
        simp [beq_tups]
        simpa [lotB, f2] using q
def spCheckRoom (C : Nat) : DSp := fun ds Q _ => ∃ rs A h i, ds = [h, .str (nm rs i)] ∧ Hou C rs A h ∧ RsOk rs ∧ i < rs.length ∧ Q (.fz .non) [.non, .non]
theorem kp_check_room {S : Sps} {C : Nat} : keeps [.fz, .fz] 2 (spCheckRoom C) (w_check_room S C) := by
  refine keeps_i fun ds Q E hs hl K hn hr => ?_
  obtain ⟨rs, A, h, i, rfl, ⟨text, told, tq, rfl, e1, e2, e3⟩, ok, hi, q⟩ := hs
  have gx := good_str (ok.1 _ (nm_mem hi)).ok
  have gr := good_tupS ok.1
  unfold w_check_room houD
  simp [kb_str, gx, gr, any_strs, nm_mem hi]
  refine hn _ ?_
  simpa using q
theorem val_lot {rs : List Str} (ok : RsOk rs) (p : Nat → Bool) : valOk (lotD rs p) := by
  refine ⟨rfl, fun xs e => ?_⟩
  unfold lotD at e
  cases e
  refine ⟨?_, fun x m => ?_⟩
  · rw [List.length_map]
    have := pick_len rs p
    have := ok.2.2.2
    omega
  · obtain ⟨y, my, rfl⟩ := List.mem_map.mp m
    exact ⟨rfl, fun z e => by cases e; exact (ok.1 _ (pick_sub my)).ok⟩
theorem tupS_strs (l : List Str) : tupS (.tup (l.map .str)) = some l := strsOf_map l
theorem lotB_lot {rs : List Str} (ok : RsOk rs) (p : Nat → Bool) : lotB rs (lotD rs p) = true := by
  unfold lotB lotD
  rw [tupS_strs]
  show decide (pick rs p = _) = true
  rw [pick_filter ok.2.1, decide_eq_true_iff]
def spCheckLot (C : Nat) : DSp := fun ds Q _ => ∃ rs A h p, ds = [h, lotD rs p] ∧ Hou C rs A h ∧ RsOk rs ∧ Q (.fz .non) [.non, .non]
theorem kp_check_lot {S : Sps} {C : Nat} (h1 : S.check_house = spCheck C) (h2 : S.is_lot_of = spIsLotOf C) : keeps [.fz, .fz] 2 (spCheckLot C) (w_check_lot S C) := by
  refine keeps_i fun ds Q E hs hl K hn hr => ?_
  obtain ⟨rs, A, h, p, rfl, hh, ok, q⟩ := hs
  unfold w_check_lot
  refine seq_i fun N hN => ?_
  simp [h1]
  refine ⟨rs, A, h, rfl, hh, ?_⟩
  simp
  refine hN _ ?_
  simp [h2]
  refine ⟨rs, A, h, _, rfl, hh, ok, val_lot ok p, ?_⟩
  simp [lotB_lot ok]
  refine hn _ ?_
  simpa using q
theorem kp_is_lot {S : Sps} {C : Nat} (h1 : S.check_house = spCheck C) (h2 : S.is_lot_of = spIsLotOf C) : keeps [.fz, .fz] 2 (spIsLotOf C) (w_is_lot S C) := by
  refine keeps_i fun ds Q E hs hl K hn hr => ?_
  obtain ⟨rs, A, h, v, rfl, hh, ok, hv, q⟩ := hs
  unfold w_is_lot
  refine seq_i fun N hN => ?_
  simp [h1]
  refine ⟨rs, A, h, rfl, hh, ?_⟩
  simp
  refine hN _ ?_
  simp [h2]
  refine ⟨rs, A, h, _, rfl, hh, ok, hv, hr _ _ ?_⟩
  simpa using q
/-! what hangs together -/
noncomputable def partsD (rs : List Str) (A : Nat → Nat → Bool) (f : Nat → Bool) : List D := (reps rs.length A f).map fun r => lotD rs (conn rs.length A f r)
theorem reps_len {n : Nat} {A : Nat → Nat → Bool} {f : Nat → Bool} : (reps n A f).length ≤ n := by
  have := List.length_filter_le (isRep n A f) (List.range n)
  rw [List.length_range] at this
  exact this
def Sym (A : Nat → Nat → Bool) : Prop := ∀ i j, A i j = A j i
def spParts (C : Nat) : DSp := fun ds Q _ => ∃ rs A h p, ds = [h, lotD rs p] ∧ Hou C rs A h ∧ RsOk rs ∧ Sym A ∧ Q (.fz (.tup (partsD rs A fun i => !p i))) [.non, .non]
theorem mk_not (n : Nat) (p : Nat → Bool) : (2 : Int) ^ n - 1 - (mk n p : Int) = (mk n (fun i => !p i) : Nat) := by
  have h1 : mk n p + mk n (fun i => !p i) = mk n (fun _ => true) := by simpa using mk_split (fun _ => true) p n
  have h2 := mk_all n
  have h3 : ((mk n p : Nat) : Int) + ((mk n fun i => !p i : Nat) : Int) + 1 = (2 : Int) ^ n := by
    rw [← h1] at h2
    exact_mod_cast h2
  omega
theorem kp_parts {S : Sps} {C : Nat} (h1 : S.check_lot = spCheckLot C) (h2 : S.bits_of = spBitsOf C) (h3 : S.parts_of = spPartsOf) (h4 : S.near_of = spNearOf C) (h5 : S.lot_of = spLotOf C) : keeps [.fz, .fz] 4 (spParts C) (w_parts S C) := by
  refine keeps_i fun ds Q E hs hl K hn hr => ?_
  obtain ⟨rs, A, h, p, rfl, hh, ok, sy, q⟩ := hs
  have n16 := ok.2.2.2
  unfold w_parts
  refine seq_i fun N hN => ?_
  simp [h1]
  refine ⟨rs, A, h, p, rfl, hh, ok, ?_⟩
  simp
  refine hN _ ?_
  refine seq_i fun N hN => ?_
  have hh0 := hh
  obtain ⟨text, told, tq, eh, e1, e2, e3⟩ := hh
  have k1 : N [.fz h, .fz (lotD rs p), .fz (mkD rs.length fun i => !p i), .un] := by
    refine hN _ ?_
    simp only [wRet, wB, rsC, rE, rsN]
    refine wLc_eq ?_
    simp [h3, h4]
    refine ⟨rs, A, h, rfl, hh0, ok, ?_⟩
    simp
    refine ⟨rs.length, A, _, rfl, n16, sy, ?_⟩
    simp
    refine lcM' [.fz h, .fz (lotD rs p), .fz (mkD rs.length fun i => !p i), .un] (reps rs.length A fun i => !p i) (fun r => mkD rs.length (conn rs.length A (fun i => !p i) r)) (fun r => lotD rs (conn rs.length A (fun i => !p i) r)) (fun P h => by simpa using h) (thou (Nat.le_trans reps_len (by omega))) (fun r m P hP => ?_) ?_
    · simp [h5, mkD]
      refine ⟨rs, A, h, _, rfl, hh0, ok, ?_⟩
      simpa [mkD] using hP
    · simp
      refine hr _ _ ?_
      simpa [partsD] using q
  subst eh
  simp [houD]
  refine ⟨sh1 n16, ?_⟩
  rw [h2]
  refine ⟨rs, A, _, p, rfl, hh0, ok, ?_⟩
  simp [mk_not]
  exact k1
def spJoined (C : Nat) : DSp := fun ds Q _ => ∃ rs A h p, ds = [h, lotD rs p] ∧ Hou C rs A h ∧ RsOk rs ∧ Sym A ∧ Q (.fz (.bl (decide ((reps rs.length A p).length = 1)))) [.non, .non]
theorem kp_is_joined {S : Sps} {C : Nat} (h1 : S.check_lot = spCheckLot C) (h2 : S.bits_of = spBitsOf C) (h3 : S.parts_of = spPartsOf) (h4 : S.near_of = spNearOf C) : keeps [.fz, .fz] 3 (spJoined C) (w_is_joined S C) := by
  refine keeps_i fun ds Q E hs hl K hn hr => ?_
  obtain ⟨rs, A, h, p, rfl, hh, ok, sy, q⟩ := hs
  have n16 := ok.2.2.2
  unfold w_is_joined
  refine seq_i fun N hN => ?_
  simp [h1]
  refine ⟨rs, A, h, p, rfl, hh, ok, ?_⟩
  simp
  refine hN _ ?_
  refine seq_i fun N hN => ?_
  simp [h2]
  refine ⟨rs, A, h, p, rfl, hh, ok, ?_⟩
  simp
  refine hN _ ?_
  simp
  by_cases hm : mk rs.length p = 0
  · simp [hm]
    refine hr _ _ ?_
    have : reps rs.length A p = [] := by
      rw [List.eq_nil_iff_forall_not_mem]
      intro r m
      have := rep_free m
      rw [mk_zero.mp hm r this.2] at this
      cases this.1
    rw [this] at q
    simpa using q
  · simp [hm, h3, h4]
    refine ⟨rs, A, h, rfl, hh, ok, ?_⟩
    simp
    refine ⟨rs.length, A, p, rfl, n16, sy, ?_⟩
    simp
    refine hr _ _ ?_
    simp
    have e : (((reps rs.length A p).length : Int) == 1) = decide ((reps rs.length A p).length = 1) := by
      rw [Bool.eq_iff_iff, decide_eq_true_iff, beq_iff_eq]
      omega
    rw [e]
    exact q
theorem ret_i {w : WE} {K : EndD} {ρ : En} (h : w K.ex ρ fun s ρ1 => K.rt s ρ1) : wRet w K ρ := h
theorem set_i {i : Nat} {w : WE} {K : EndD} {ρ : En} (h : w K.ex ρ fun s ρ1 => K.nx (ρ1.set i s)) : wSet i w K ρ := h
theorem call2 {sp : DSp} {i : Nat} {w : WE} {E : EX} {ρ : En} {Q : Sl → En → Prop} {d : D} (h0 : ρ[i]? = some (.fz d)) (hw : w E ρ fun s ρ1 => s.fr fun d2 => sp [d, d2] (fun s outs => Q s (backD ρ1 [.v d, .v d2] outs)) fun C e outs => E C e (backD ρ1 [.v d, .v d2] outs)) : wCall sp (asApp (asV (wN i) (asV w asN)) asN) E ρ Q := by
  simp only [wCall, asApp, asV, asN, wN, h0]
  exact hw
def spBeside (C : Nat) : DSp := fun ds Q _ => ∃ rs A h p, ds = [h, lotD rs p] ∧ Hou C rs A h ∧ RsOk rs ∧ Q (.fz (lotD rs fun j => round rs.length A p j && !p j)) [.non, .non]
theorem kp_beside {S : Sps} {C : Nat} (h1 : S.check_lot = spCheckLot C) (h2 : S.bits_of = spBitsOf C) (h3 : S.edge_of = spEdge) (h4 : S.near_of = spNearOf C) (h5 : S.lot_of = spLotOf C) : keeps [.fz, .fz] 2 (spBeside C) (w_beside S C) := by
  refine keeps_i fun ds Q E hs hl K hn hr => ?_
  obtain ⟨rs, A, h, p, rfl, hh, ok, q⟩ := hs
  have n16 := ok.2.2.2
  unfold w_beside
  refine seq_i fun N hN => ?_
  simp [h1]
  refine ⟨rs, A, h, p, rfl, hh, ok, ?_⟩
  simp
  refine hN _ ?_
  have w1 : ∀ E N, N (.fz (nearD rs.length A)) [.fz h, .fz (lotD rs p)] → wCall S.near_of (asApp (asV (wN 0) asN) asN) E [.fz h, .fz (lotD rs p)] N := fun E N q => by
    simp [h4]
    exact ⟨rs, A, h, rfl, hh, ok, q⟩
  have w2 : ∀ E N, N (.fz (mkD rs.length p)) [.fz h, .fz (lotD rs p)] → wCall S.bits_of (asApp (asV (wN 0) (asV (wN 1) asN)) asN) E [.fz h, .fz (lotD rs p)] N := fun E N q => by
    simp [h2]
    exact ⟨rs, A, h, p, rfl, hh, ok, q⟩
  revert w1 w2
  generalize wCall S.near_of (asApp (asV (wN 0) asN) asN) = wa
  generalize wCall S.bits_of (asApp (asV (wN 0) (asV (wN 1) asN)) asN) = wb
  intro w1 w2
  have w3 : ∀ E N, N (.fz (mkD rs.length fun j => round rs.length A p j && !p j)) [.fz h, .fz (lotD rs p)] → wCall S.edge_of (asApp (asV wa (asV wb asN)) asN) E [.fz h, .fz (lotD rs p)] N := fun E N q => by
    simp [h3]
    refine w1 _ _ ?_
    simp
    refine w2 _ _ ?_
    simp
    exact ⟨rs.length, A, p, rfl, n16, q⟩
  revert w3
  generalize wCall S.edge_of (asApp (asV wa (asV wb asN)) asN) = wc
  intro w3
  refine ret_i ?_
  rw [h5]
  refine call2 rfl ?_
  refine w3 _ _ ?_
  refine ⟨rs, A, h, _, rfl, hh, ok, hr _ _ ?_⟩
  simpa using q
theorem any_prs {x y : Str} {l : List (Str × Str)} : ((prs l).any fun z => beq z (.tup [.str x, .str y])) = decide ((x, y) ∈ l) := by
  unfold prs
  rw [List.any_map, Bool.eq_iff_iff, List.any_eq_true, decide_eq_true_iff]
  constructor
  · rintro ⟨d, m, e⟩
    have e : beq (.tup [.str d.1, .str d.2]) (.tup [.str x, .str y]) = true := e
    rw [beq_pair, decide_eq_true_iff] at e
    rw [← e.1, ← e.2]
    exact m
  · intro m
    refine ⟨_, m, ?_⟩
    show beq (.tup [.str x, .str y]) (.tup [.str x, .str y]) = true
    rw [beq_pair]
    simp
def spHasDoor (C : Nat) : DSp := fun ds Q _ => ∃ rs A h i j, ds = [h, .str (nm rs i), .str (nm rs j)] ∧ Hou C rs A h ∧ RsOk rs ∧ i < rs.length ∧ j < rs.length ∧ Q (.fz (.bl (A i j))) [.non, .non, .non]
theorem kp_has_door {S : Sps} {C : Nat} : keeps [.fz, .fz, .fz] 3 (spHasDoor C) (w_has_door S C) := by
  refine keeps_i fun ds Q E hs hl K hn hr => ?_
  obtain ⟨rs, A, h, i, j, rfl, ⟨text, told, tq, rfl, e1, e2, e3⟩, ok, hi, hj, q⟩ := hs
  have oi := ok.1 _ (nm_mem hi)
  have oj := ok.1 _ (nm_mem hj)
  have gt : (D.tup (prs told)).good = true := by
    refine good_tup (n := 1) (fun d m => ?_) (fun d m => ?_)
    all_goals
      obtain ⟨t, mt, rfl⟩ := List.mem_map.mp m
      rw [e1] at mt
      obtain ⟨p, mp, rfl⟩ := List.mem_map.mp mt
      have := e2 p mp
      have g := good_pair (ok.1 _ (nm_mem this.1)) (ok.1 _ (nm_mem this.2.1))
    · unfold D.good at g
      rw [Bool.and_eq_true] at g
      exact g.1
    · exact Nat.le_refl _
  have mt : ∀ a b, a < rs.length → b < rs.length → ((nm rs a, nm rs b) ∈ told ↔ (a, b) ∈ tq) := fun a b ha hb => by
    rw [e1]
    constructor
    · intro m
      obtain ⟨p, mp, e⟩ := List.mem_map.mp m
      have := e2 p mp
      have h1 := nm_inj ok.2.1 this.1 ha (congrArg Prod.fst e)
      have h2 := nm_inj ok.2.1 this.2.1 hb (congrArg Prod.snd e)
      rw [← h1, ← h2]
      exact mp
    · intro m
      exact List.mem_map.mpr ⟨_, m, rfl⟩
  unfold w_has_door houD
  simp [gt, good_pair oi oj, good_pair oj oi, any_prs, mt i j hi hj, mt j i hj hi]
  have ea := e3 i j
  by_cases h1 : (i, j) ∈ tq
  · rw [if_pos h1]
    refine hr _ _ ?_
    have : A i j = true := ea.mpr (.inl h1)
    rw [this] at q
    simpa using q
  · rw [if_neg h1]
    refine hr _ _ ?_
    have : decide ((j, i) ∈ tq) = A i j := by
      rw [Bool.eq_iff_iff, decide_eq_true_iff, ea]
      simp [h1]
    simp [this]
    simpa using q
end K01

set_option Elab.async false
set_option linter.all false
set_option maxRecDepth 100000
set_option maxHeartbeats 2000000
namespace K01
open PySem L2 PySem.Spec PyProof.Rows Pu TL
def beB (rs : List Str) (A : Nat → Nat → Bool) (a b : Str) : Bool := A (ix rs a) (ix rs b)
def rowB (rs : List Str) (A : Nat → Nat → Bool) (v : D) : Bool := match tupS v with
  | some l => !l.isEmpty && (l.all (fun x => decide (x ∈ rs)) && chainB (beB rs A) l)
  | none => false
theorem chain_zip {α : Type} {r : α → α → Bool} : ∀ l : List α, chainB r l = (l.zip l.tail).all fun p => r p.1 p.2
  | [] => rfl
  | [a] => rfl
  | a :: b :: l => by
    have ih := chain_zip (r := r) (b :: l)
    show (r a b && chainB r (b :: l)) = _
    rw [ih]
    rfl
def pairD (p : Str × Str) : D := .tup [.str p.1, .str p.2]
theorem cut_one (xs : List D) : Pu.cutD xs (some 1) none = xs.drop 1 := by
  unfold Pu.cutD
  rw [show (1 : Int) = ((1 : Nat) : Int) from rfl, HT.sIx_nat, show HT.sIx xs.length xs.length none = xs.length from rfl]
  cases xs with
  | nil => rfl
  | cons a l =>
    rw [Nat.min_eq_left (by simp)]
    simp
theorem paired_zip : ∀ l m : List Str, paired (l.map .str) (m.map .str) = (l.zip m).map pairD
  | [], _ => rfl
  | _ :: _, [] => rfl
  | a :: l, b :: m => by
    show _ :: paired _ _ = _
    rw [paired_zip l m]
    rfl
theorem iseq0 {j : Nat} {E : EX} {ρ : En} {R : Bool → En → Prop} {xs : List D} (hj : ρ[j]? = some (.fz (.tup xs))) (hR : R xs.isEmpty ρ) : tV (wOp kEqE (rN j) (rE (wTup vsN))) E ρ R := by
  simp [hj]
  exact hR
def spIsRowOf (C : Nat) : DSp := fun ds Q _ => ∃ rs A h v, ds = [h, v] ∧ Hou C rs A h ∧ RsOk rs ∧ valOk v ∧ Q (.fz (.bl (rowB rs A v))) [.non, .non]
theorem kp_is_row_of {S : Sps} {C : Nat} (h1 : S.has_door = spHasDoor C) : keeps [.fz, .fz] 5 (spIsRowOf C) (w_is_row_of S C) := by
  refine keeps_i fun ds Q E hs hl K hn hr => ?_
  obtain ⟨rs, A, h, v, rfl, hh, ok, hv, q⟩ := hs
  have hh0 := hh
  obtain ⟨text, told, tq, eh, e1, e2, e3⟩ := hh
  have no : rowB rs A v = false → K.rt (.fz (.bl false)) [.fz h, .fz v, .un, .un, .un] := fun e => by
    refine hr _ _ ?_
    rw [e] at q
    simpa using q
  unfold w_is_row_of
  refine seq_i fun N hN => ?_
  simp only [wIfS, Pu.tOr, Pu.tNot]
  refine istup hv rfl ?_
  rcases val_cases hv with ⟨f1, f2⟩ | ⟨xs, rfl, f1, f2, f3, f4⟩ | ⟨l, rfl, f2, f3, f4⟩
  · rw [f1]
    exact no (by unfold rowB; rw [f2])
  · have nn := no (by unfold rowB; rw [f2])
    refine iseq0 rfl ?_
    cases hx : xs.isEmpty with
    | true => exact nn
    | false =>
      refine isstr_all rfl rfl f3 f4 ?_
      rw [f1]
      exact nn
  · refine iseq0 rfl ?_
    cases hx : (l.map D.str).isEmpty with
    | true =>
      have : l = [] := by simpa using hx
      subst this
      exact no (by unfold rowB; rw [f2]; rfl)
    | false =>
      have hx : l ≠ [] := fun e => by subst e; cases hx
      refine isstr_all rfl rfl (by simpa using f3) (fun x m => ?_) ?_
      · obtain ⟨y, my, rfl⟩ := List.mem_map.mp m
        exact ⟨rfl, fun z e => by cases e; exact f4 y my⟩
      · rw [allS_strs]
        simp
        refine hN _ ?_
        have gr := good_tupS ok.1
        refine seq_i fun N hN => ?_
        simp only [wIfS, Pu.tNot]
        refine bs_all (j := 1) l D.str (fun x => decide (x ∈ rs)) _ (fun P h => by simpa using h) rfl f3 (fun x m Q q => ?_) ?_
        · subst eh
          have ea := any_strs (x := x) (l := rs)
          rw [List.any_map] at ea
          simp [houD, good_str (f4 x m), gr, ea]
          exact q
        · cases hall : l.all (fun x => decide (x ∈ rs)) with
          | false =>
            exact no (by unfold rowB; rw [f2]; simp [hall])
          | true =>
            simp
            refine hN _ ?_
            have hin : ∀ x ∈ l, x ∈ rs := fun x m => by simpa using List.all_eq_true.mp hall x m
            refine ret_i ?_
            simp only [wB, rsC, rE, rsN]
            have zl : (l.zip l.tail).length ≤ 1000 := by rw [List.length_zip]; omega
            refine lcM (l.zip l.tail) pairD (fun p => .bl (beB rs A p.1 p.2)) (fun P h => ?_) (thou zl) (fun p m P hP => ?_) ?_
            · have ep : paired (l.map D.str) (l.map D.str).tail = (l.zip l.tail).map pairD := by
                rw [← List.map_tail]
                exact paired_zip _ _
              simp [cut_one, ep]
              exact h
            · have m1 := hin _ (List.of_mem_zip m).1
              have m2 := hin _ (List.mem_of_mem_tail (List.of_mem_zip m).2)
              simp [pairD, h1]
              refine ⟨rs, A, h, ix rs p.1, ix rs p.2, by rw [nm_ix m1, nm_ix m2], hh0, ok, ix_lt m1, ix_lt m2, ?_⟩
              simpa [beB] using hP
            · simp [blsOf_m]
              refine hr _ _ ?_
              have e : rowB rs A (.tup (l.map .str)) = (l.zip l.tail).all fun p => beB rs A p.1 p.2 := by
                unfold rowB
                rw [f2]
                simp [hall, chain_zip, hx]
              rw [e] at q
              simpa [Function.comp_def] using q
/-! ways from a room to each other one -/
def wayD (rs : List Str) (p : List Nat) : D := .tup (p.map fun i => .str (nm rs i))
def rowsD (rs : List Str) (F : List (Nat × List Nat)) : D := .dic (dKs rs F) (dXs (wayD rs) F)
def nmD (rs : List Str) (i : Nat) : D := .str (nm rs i)
def nmsD (rs : List Str) (L : List Nat) : D := .lst (L.map (nmD rs))
theorem beq_nms {rs : List Str} {L : List Nat} : beq (nmsD rs L) (.lst []) = decide (L = []) := by
  cases L <;> rfl
theorem good_nms {rs : List Str} {L : List Nat} (ok : RsOk rs) (h : ∀ i ∈ L, i < rs.length) : (nmsD rs L).good = true := good_lst (n := 0) (fun d m => by
  obtain ⟨i, mi, rfl⟩ := List.mem_map.mp m
  exact (ok.1 _ (nm_mem (h i mi))).ok) fun d m => by
  obtain ⟨i, mi, rfl⟩ := List.mem_map.mp m
  exact Nat.le_refl _
def spRows (C : Nat) : DSp := fun ds Q _ => ∃ rs A h s, ds = [h, .str (nm rs s)] ∧ Hou C rs A h ∧ RsOk rs ∧ s < rs.length ∧ ∀ F k, RwL rs.length A s k [] F → Q (.fz (rowsD rs F)) [.non, .non]
theorem beq_nil {l : List Str} : beq (.lst (l.map .str)) (.lst []) = decide (l = []) := by
  cases l <;> rfl
theorem kp_rows_from {S : Sps} {C : Nat} (h1 : S.near_of = spNearOf C) (h2 : S.lot_of = spLotOf C) : keeps [.fz, .fz] 8 (spRows C) (w_rows_from S C) := by
  refine keeps_i fun ds Q E hs hl K hn hr => ?_
  obtain ⟨rs, A, h, s, rfl, hh, ok, hs, q⟩ := hs
  have hh0 := hh
  obtain ⟨text, told, tq, eh, e1, e2, e3⟩ := hh
  unfold w_rows_from
  refine seq_i fun N hN => ?_
  simp [h1]
  refine ⟨rs, A, h, rfl, hh0, ok, ?_⟩
  simp
  have e0 : putD [] [] (Sum.inr (nm rs s)) (D.tup [D.str (nm rs s)]) = rowsD rs [(s, [s])] := rfl
  rw [e0]
  refine hN _ ?_
  refine seq_i fun N hN => ?_
  have n16 := ok.2.2.2
  refine while_i (fun m ρ => ∃ k L F s4 c5 c6 c7, ρ = [.fz h, .fz (.str (nm rs s)), .fz (nearD rs.length A), .ow (rowsD rs F), s4, c5, c6, c7] ∧ (s4 = .ow (nmsD rs L) ∨ s4 = .fz (nmsD rs L)) ∧ RwL rs.length A s k L F ∧ (L = [] ∨ k + 1 ≤ F.length) ∧ m = 2 * (rs.length - F.length) + (if L = [] then 0 else 1)) ⟨_, 0, [s], _, _, _, _, _, rfl, .inl rfl, RwL.first hs, .inr (Nat.le_refl _), rfl⟩ ?_
  rintro m0 ρ ⟨k, L, F, s4, c5, c6, c7, rfl, h4, rl, kl, rfl⟩ N1 hN1
  have ltF := rl.rw.lt
  have ltL : ∀ i ∈ L, i < rs.length := fun i m => by
    obtain ⟨p, mp, _⟩ := rl.on i m
    exact ltF _ mp
  have gL := good_nms ok ltL
  have test : ∀ (R : Bool → En → Prop), R (!decide (L = [])) [.fz h, .fz (.str (nm rs s)), .fz (nearD rs.length A), .ow (rowsD rs F), s4, c5, c6, c7] → tV (wOp kNe (rN 4) (rE (wLst vsN))) K.ex [.fz h, .fz (.str (nm rs s)), .fz (nearD rs.length A), .ow (rowsD rs F), s4, c5, c6, c7] R := fun R hR => by
    have eb := beq_nms (rs := rs) (L := L)
    have g0 : (D.lst []).good = true := rfl
    unfold nmsD at *
    rcases h4 with rfl | rfl
    · simp [gL, g0, eb]
      simpa using hR
    · simp [gL, g0, eb]
      simpa using hR
  refine test _ ?_
  by_cases hL : L = []
  · subst hL
    refine hN _ ?_
    simp
    refine hr _ _ ?_
    have := q F k rl
    simpa using this
  · have kl := kl.resolve_left hL
    have en : (!decide (L = [])) = true := by simp [hL]
    rw [en]
    refine hN1 _ ?_
    refine seq_i fun N2 hN2 => ?_
    simp
    refine hN2 _ ?_
    refine seq_i fun N3 hN3 => ?_
    refine forW' [.fz h, .fz (.str (nm rs s)), .fz (nearD rs.length A), .ow (rowsD rs F), .fz (nmsD rs L), .ow (nmsD rs []), c6, c7] L (nmD rs) (fun P h => ?_) (fun m ρ => ∃ F' M c6 c7, ρ = [.fz h, .fz (.str (nm rs s)), .fz (nearD rs.length A), .ow (rowsD rs F'), .fz (nmsD rs L), .ow (nmsD rs M), c6, c7] ∧ RwM rs.length A s k L (L.take m) F.length F' M) ⟨F, [], c6, c7, rfl, rl.go⟩ (fun m hm ρ N4 hW hN4 => ?_) (fun ρ hW => ?_)
    · rcases h4 with rfl | rfl
      · simp [nmsD]
        simpa [nmsD] using h
      · simp [nmsD]
        simpa [nmsD] using h
    · obtain ⟨F', M, c6, c7, rfl, rm⟩ := hW
      have hi : L[m] < rs.length := ltL _ (List.getElem_mem hm)
      obtain ⟨i, ei⟩ : ∃ i, i = L[m] := ⟨_, rfl⟩
      rw [← ei] at hi ⊢
      have iL : i ∈ L := ei ▸ List.getElem_mem hm
      simp only [gN, List.set_cons_succ, List.set_cons_zero]
      have items : ∀ (s3 s5 c7 : Sl) (P : List D → En → Prop), P ((nums rs.length (A i)).map (nmD rs)) [.fz h, .fz (.str (nm rs s)), .fz (nearD rs.length A), s3, .fz (nmsD rs L), s5, .fz (nmD rs i), c7] → iSq (wCall S.lot_of (asApp (asV (wN 0) (asV (wOp kIx (rN 2) (rE (wTIx (wProp C "own_rooms" (rN 0)) (rsC (rN 6) rsN)))) asN)) asN)) K.ex [.fz h, .fz (.str (nm rs s)), .fz (nearD rs.length A), s3, .fz (nmsD rs L), s5, .fz (nmD rs i), c7] P := fun s3 s5 c7 P hP => by
        have w1 : ∀ E N, N (.fz (mkD rs.length (A i))) [.fz h, .fz (.str (nm rs s)), .fz (nearD rs.length A), s3, .fz (nmsD rs L), s5, .fz (nmD rs i), c7] → wOp kIx (rN 2) (rE (wTIx (wProp C "own_rooms" (rN 0)) (rsC (rN 6) rsN))) E [.fz h, .fz (.str (nm rs s)), .fz (nearD rs.length A), s3, .fz (nmsD rs L), s5, .fz (nmD rs i), c7] N := fun E N q => by
          subst eh
          simp [houD, nmD, strsOf_map, firstS_at 0 ok.2.1 hi, kIx.kIxS, nearD, at_map hi]
          exact q
        revert w1
        generalize wOp kIx (rN 2) (rE (wTIx (wProp C "own_rooms" (rN 0)) (rsC (rN 6) rsN))) = wa
        intro w1
        rw [h2]
        refine call2 (d := h) rfl ?_
        refine w1 _ _ ?_
        refine ⟨rs, A, h, A i, rfl, hh0, ok, ?_⟩
        have e : lotD rs (A i) = .tup ((nums rs.length (A i)).map (nmD rs)) := by
          unfold lotD
          rw [pick_eq, List.map_map]
          rfl
        rw [e]
        exact hP
      refine forW' _ (nums rs.length (A i)) (nmD rs) (fun P h => items _ _ _ P h) (fun t ρ => ∃ F' M c7, ρ = [.fz h, .fz (.str (nm rs s)), .fz (nearD rs.length A), .ow (rowsD rs F'), .fz (nmsD rs L), .ow (nmsD rs M), .fz (nmD rs i), c7] ∧ RwM rs.length A s k L (L.take m) F.length F' M ∧ ∀ j ∈ (nums rs.length (A i)).take t, ∃ p, (j, p) ∈ F') ⟨F', M, c7, rfl, rm, by simp⟩ (fun t ht ρ N5 hW hN5 => ?_) (fun ρ hW => ?_)
      · obtain ⟨F', M, c7, rfl, rm, cu⟩ := hW
        obtain ⟨j, ej⟩ : ∃ j, j = (nums rs.length (A i))[t] := ⟨_, rfl⟩
        rw [← ej]
        have jm : j ∈ nums rs.length (A i) := ej ▸ List.getElem_mem ht
        obtain ⟨hj, ha⟩ := mem_nums.mp jm
        have ltF' := rm.rw.lt
        have tk : (nums rs.length (A i)).take (t + 1) = (nums rs.length (A i)).take t ++ [j] := by rw [List.take_add_one, List.getElem?_eq_getElem ht, ej]; rfl
        have lk : ∀ x, x < rs.length → lookD (dKs rs F') (dXs (wayD rs) F') (.inr (nm rs x)) = (F'.lookup x).map (wayD rs) := fun x hx => look_at ok.2.1 hx ltF'
        simp only [gN, List.set_cons_succ, List.set_cons_zero]
        cases hlk : F'.lookup j with
        | some p =>
          simp [rowsD, nmD, lk j hj, hlk]
          refine hN5 _ ⟨F', M, _, rfl, rm, fun x mx => ?_⟩
          rw [tk] at mx
          rcases List.mem_append.mp mx with mx | mx
          · exact cu x mx
          · rw [List.mem_singleton.mp mx]
            exact ⟨p, look_mem hlk⟩
        | none =>
          obtain ⟨p, mp, hp⟩ := rm.on i iL
          have lki := mem_look rm.rw.nd mp
          have fl := few_keys rm.rw.nd ltF'
          have ln := rm.ln
          have pn : putD (dKs rs F') (dXs (wayD rs) F') (.inr (nm rs j)) (wayD rs (p ++ [j])) = _ := put_new ok.2.1 hj ltF' hlk
          have ew : wayD rs (p ++ [j]) = .tup ((p.map fun i => D.str (nm rs i)) ++ [.str (nm rs j)]) := by
            unfold wayD
            rw [List.map_append]
            rfl
          rw [ew] at pn
          have ks : (dKs rs F').length = F'.length := by unfold dKs; rw [List.length_map]
          have th : 17 ≤ sizeLine := by decide
          simp [rowsD, nmD, lk j hj, hlk, lk i hi, lki, wayD, pn, ks, nmsD]
          refine ⟨by omega, by omega, by omega, hN5 _ ⟨F' ++ [(j, p ++ [j])], M ++ [j], .fz (.str (nm rs j)), by simp [rowsD, nmsD, nmD], rm.add mp hp ha hj (look_none.mp hlk), fun x mx => ?_⟩⟩
          rw [tk] at mx
          rcases List.mem_append.mp mx with mx | mx
          · obtain ⟨y, my⟩ := cu x mx
            exact ⟨y, List.mem_append_left _ my⟩
          · rw [List.mem_singleton.mp mx]
            exact ⟨_, List.mem_append_right _ (List.mem_singleton.mpr rfl)⟩
      · obtain ⟨F', M, c7, rfl, rm, cu⟩ := hW
        rw [List.take_length] at cu
        refine hN4 _ ⟨F', M, _, _, rfl, ?_⟩
        have tk : L.take (m + 1) = L.take m ++ [i] := by rw [List.take_add_one, List.getElem?_eq_getElem hm, ei]; rfl
        rw [tk]
        exact rm.room iL fun j hj ha => cu j (mem_nums.mpr ⟨hj, ha⟩)
    · obtain ⟨F', M, c6, c7, rfl, rm⟩ := hW
      rw [List.take_length] at rm
      refine hN3 _ ?_
      simp
      have fl := few_keys rm.rw.nd rm.rw.lt
      have fl0 := few_keys rl.rw.nd ltF
      have ln := rm.ln
      refine ⟨_, ?_, k + 1, M, F', _, ⟨rfl, rfl⟩, .inr rfl, rm.next, ?_, rfl⟩
      · rw [if_neg hL]
        cases M with
        | nil => simp; omega
        | cons a M =>
          simp only [List.length_cons] at ln
          simp
          omega
      · cases M with
        | nil => exact .inl rfl
        | cons a M =>
          simp only [List.length_cons] at ln
          exact .inr (by omega)
def WayV (rs : List Str) (A : Nat → Nat → Bool) (s t : Nat) (v : D) : Prop := (v = .non ∧ ∀ d, ¬ Hops rs.length A d s t) ∨ ∃ p d, v = wayD rs p ∧ Way rs.length A s t p ∧ p.length = d + 1 ∧ Dst rs.length A s t d
def spWay (C : Nat) : DSp := fun ds Q _ => ∃ rs A h s t, ds = [h, .str (nm rs s), .str (nm rs t)] ∧ Hou C rs A h ∧ RsOk rs ∧ s < rs.length ∧ t < rs.length ∧ ∀ told, WayV rs A s t told → Q (.fz told) [.non, .non, .non]
theorem kp_way {S : Sps} {C : Nat} (h1 : S.check_house = spCheck C) (h2 : S.check_room = spCheckRoom C) (h3 : S.rows_from = spRows C) : keeps [.fz, .fz, .fz] 3 (spWay C) (w_way S C) := by
  refine keeps_i fun ds Q E hs hl K hn hr => ?_
  obtain ⟨rs, A, h, s, t, rfl, hh, ok, hs, ht, q⟩ := hs
  unfold w_way
  refine seq_i fun N hN => ?_
  simp [h1]
  refine ⟨rs, A, h, rfl, hh, ?_⟩
  simp
  refine hN _ ?_
  refine seq_i fun N hN => ?_
  simp [h2]
  refine ⟨rs, A, h, s, rfl, hh, ok, hs, ?_⟩
  simp
  refine hN _ ?_
  refine seq_i fun N hN => ?_
  simp [h2]
  refine ⟨rs, A, h, t, rfl, hh, ok, ht, ?_⟩
  simp
  refine hN _ ?_
  simp [h3]
  refine ⟨rs, A, h, s, rfl, hh, ok, hs, fun F k rl => ?_⟩
  obtain ⟨o1, o2⟩ := rl.out
  have lk := look_at (f := wayD rs) ok.2.1 ht rl.rw.lt
  simp [rowsD, lk]
  refine hr _ _ ?_
  simp
  refine q _ ?_
  cases hlk : F.lookup t with
  | none =>
    refine .inl ⟨rfl, fun d w => ?_⟩
    obtain ⟨p, m⟩ := o2 d t w
    exact look_none.mp hlk _ m rfl
  | some p =>
    have m := look_mem hlk
    obtain ⟨d, e, dd⟩ := o1 _ m
    exact .inr ⟨p, d, rfl, rl.rw.way _ m, e, dd⟩
def WayL (rs : List Str) (A : Nat → Nat → Bool) (s t d : Nat) (l : List Str) : Prop := l ≠ [] ∧ (∀ x ∈ l, x ∈ rs) ∧ chainB (beB rs A) l = true ∧ l.head? = some (nm rs s) ∧ l.getLast? = some (nm rs t) ∧ l.length = d + 1
def ShowsV (rs : List Str) (A : Nat → Nat → Bool) (s t : Nat) (v : D) (b : Bool) : Prop := b = true ↔ ((∀ d, ¬ Hops rs.length A d s t) ∧ v = .non) ∨ ∃ d l, Dst rs.length A s t d ∧ tupS v = some l ∧ WayL rs A s t d l
theorem at_first {l : List Str} {x : Str} (h : l.head? = some x) : atI (l.map D.str) 0 = some (.str x) := by
  cases l with
  | nil => cases h
  | cons a l =>
    cases h
    exact at0
theorem at_last {l : List Str} {x : Str} (h : l.getLast? = some x) : atI (l.map D.str) (-1) = some (.str x) := by
  have h0 : l ≠ [] := fun e => by subst e; cases h
  have h1 : 0 < l.length := List.length_pos_iff.mpr h0
  have e : ixN l.length (-1) = some (l.length - 1) := by unfold ixN; simp; omega
  unfold atI
  rw [List.length_map, e]
  rw [List.getLast?_eq_getElem?] at h
  simp [h]
theorem isN_non : isN .non = true := rfl
theorem isN_way {rs : List Str} {p : List Nat} : isN (wayD rs p) = false := rfl
theorem isN_iff {v : D} : isN v = true ↔ v = .non := by cases v <;> simp
def spShowsWay (C : Nat) : DSp := fun ds Q _ => ∃ rs A h s t v, ds = [h, .str (nm rs s), .str (nm rs t), v] ∧ Hou C rs A h ∧ RsOk rs ∧ s < rs.length ∧ t < rs.length ∧ valOk v ∧ ∀ b, ShowsV rs A s t v b → Q (.fz (.bl b)) [.non, .non, .non, .non]
theorem kp_shows_way {S : Sps} {C : Nat} (h1 : S.way = spWay C) (h2 : S.is_row_of = spIsRowOf C) : keeps [.fz, .fz, .fz, .fz] 5 (spShowsWay C) (w_shows_way S C) := by
  refine keeps_i fun ds Q E hs hl K hn hr => ?_
  obtain ⟨rs, A, h, s, t, v, rfl, hh, ok, hs, ht, hv, q⟩ := hs
  have fin : ∀ b told, ShowsV rs A s t v b → K.rt (.fz (.bl b)) [.fz h, .fz (.str (nm rs s)), .fz (.str (nm rs t)), .fz v, .fz told] := fun b told sb => by
    refine hr _ _ ?_
    simpa using q b sb
  unfold w_shows_way
  refine seq_i fun N hN => ?_
  simp [h1]
  refine ⟨rs, A, h, s, t, rfl, hh, ok, hs, ht, fun told ht' => ?_⟩
  simp
  refine hN _ ?_
  refine seq_i fun N hN => ?_
  rcases ht' with ⟨rfl, no⟩ | ⟨p, d, rfl, w, pl, dd⟩
  · simp [-isN, isN_non]
    refine fin _ _ ?_
    unfold ShowsV
    rw [isN_iff]
    constructor
    · intro e; exact .inl ⟨no, e⟩
    · rintro (⟨_, e⟩ | ⟨d, l, dd, _⟩)
      · exact e
      · exact absurd dd.1 (no d)
  · have hasd : ∀ b, (b = true ↔ ∃ l, tupS v = some l ∧ WayL rs A s t d l) → ShowsV rs A s t v b := fun b hb => by
      unfold ShowsV
      rw [hb]
      constructor
      · rintro ⟨l, e, w⟩; exact .inr ⟨d, l, dd, e, w⟩
      · rintro (⟨no, _⟩ | ⟨d', l, dd', e, w⟩)
        · exact absurd dd.1 (no d)
        · rw [dd'.one dd] at w
          exact ⟨l, e, w⟩
    cases hi : isN v with
    | true =>
      have := isN_iff.mp hi
      subst this
      simp [-isN, isN_way, isN_non]
      refine fin _ _ (hasd _ ⟨fun e => (by cases e), fun h => by obtain ⟨l, e, _⟩ := h; cases e⟩)
    | false =>
      simp [-isN, isN_way, hi]
      refine hN _ ?_
      simp [-isN, h2]
      refine ⟨rs, A, h, v, rfl, hh, ok, hv, ?_⟩
      simp
      cases hr2 : rowB rs A v with
      | false =>
        simp
        refine fin _ _ (hasd _ ⟨fun e => (by cases e), fun h => ?_⟩)
        obtain ⟨l, e, w1, w2, w3, _⟩ := h
        unfold rowB at hr2
        rw [e] at hr2
        simp [w1, w3] at hr2
        obtain ⟨x, m, nx⟩ := hr2
        exact absurd (w2 x m) nx
      | true =>
        simp
        unfold rowB at hr2
        cases htup : tupS v with
        | none => rw [htup] at hr2; cases hr2
        | some l =>
          rw [htup] at hr2
          simp at hr2
          obtain ⟨w1, w2, w3⟩ := hr2
          rcases val_cases hv with ⟨f1, f2⟩ | ⟨xs, rfl, f1, f2, f3, f4⟩ | ⟨l', rfl, f2, f3, f4⟩
          · rw [f2] at htup; cases htup
          · rw [f2] at htup; cases htup
          · rw [f2] at htup
            cases htup
            obtain ⟨a, ha⟩ : ∃ a, l.head? = some a := by
              cases l with
              | nil => exact absurd rfl w1
              | cons a l => exact ⟨a, rfl⟩
            obtain ⟨z, hz⟩ : ∃ z, l.getLast? = some z := ⟨_, List.getLast?_eq_some_getLast w1⟩
            have oa := ok.1 _ (w2 a (List.mem_of_mem_head? ha))
            have oz := ok.1 _ (w2 z (List.mem_of_getLast? hz))
            have os := ok.1 _ (nm_mem hs)
            have ot := ok.1 _ (nm_mem ht)
            simp [kIx.kIxS, at_first ha, at_last hz, good_pair oa oz, good_pair os ot, wayD]
            by_cases hc : a = nm rs s ∧ z = nm rs t
            · rw [if_pos hc]
              refine fin _ _ (hasd _ ?_)
              rw [beq_iff_eq]
              constructor
              · intro e
                exact ⟨l, f2, w1, w2, w3, by rw [ha, hc.1], by rw [hz, hc.2], by omega⟩
              · intro h
                obtain ⟨l', e, w⟩ := h
                rw [f2] at e
                cases e
                have := w.2.2.2.2.2
                omega
            · rw [if_neg hc]
              refine fin _ _ (hasd _ ⟨fun e => (by cases e), fun h => ?_⟩)
              obtain ⟨l', e, w⟩ := h
              rw [f2] at e
              cases e
              refine absurd ⟨?_, ?_⟩ hc
              · have := w.2.2.2.1
                rw [ha] at this
                exact Option.some.inj this
              · have := w.2.2.2.2.1
                rw [hz] at this
                exact Option.some.inj this
end K01

set_option Elab.async false
set_option linter.all false
set_option maxRecDepth 100000
set_option maxHeartbeats 2000000
namespace K01
open PySem L2 PySem.Spec PyProof.Rows Pu TL
/-- some items kept, made others, by what holds at each turn -/
theorem lcT {α : Type} {wi : WI} {g : WG} {tt : WT} {te : WE} {vs : List Nat} {E : EX} {ρ : En} {Q : Sl → En → Prop} (ρ1 : En) (its : List α) (it : α → D) (hi : ∀ P : List D → En → Prop, P (its.map it) ρ1 → wi E ρ P) (W : Nat → List D → En → Prop) (h0 : W 0 [] (wipeE ρ1 vs))
    (hb : ∀ i (h : i < its.length) acc ρ' (P : D → En → Prop) (N : En → Prop), W i acc ρ' → (∀ d ρ4, acc.length < sizeLine → W (i + 1) (acc ++ [d]) (wipeE ρ4 vs) → P d ρ4) → (∀ ρ3, W (i + 1) acc (wipeE ρ3 vs) → N ρ3) →
      g (.fz (it its[i])) ρ' fun ρ2 => tt noEX ρ2 fun b ρ3 => if b = true then te noEX ρ3 fun s ρ4 => s.fr fun d => P d ρ4 else N ρ3)
    (hq : ∀ acc ρ', W its.length acc ρ' → Q (.ow (.lst acc)) (backE ρ1 ρ' vs)) : wLc wi g tt te vs E ρ Q := by
  refine hi _ ⟨W, h0, ?_, ?_⟩
  · rintro i x acc ρ' e w
    rw [List.getElem?_map] at e
    obtain ⟨y, ey, rfl⟩ := Option.map_eq_some_iff.mp e
    obtain ⟨h, e⟩ := List.getElem?_eq_some_iff.mp ey
    subst e
    exact hb i h acc ρ' (fun d ρ4 => acc.length < sizeLine ∧ W (i + 1) (acc ++ [d]) (wipeE ρ4 vs)) (fun ρ3 => W (i + 1) acc (wipeE ρ3 vs)) w (fun _ _ h1 h2 => ⟨h1, h2⟩) fun _ h => h
  · intro acc ρ' w
    rw [List.length_map] at w
    exact hq acc ρ' w
/-! which rooms are beside each room -/
def nearF (n : Nat) : List (Nat × Nat) := (List.range n).map fun i => (i, i)
def nearX (rs : List Str) (A : Nat → Nat → Bool) (i : Nat) : D := lotD rs (A i)
def nearV (rs : List Str) (A : Nat → Nat → Bool) : D := .dic (dKs rs (nearF rs.length)) (dXs (nearX rs A) (nearF rs.length))
theorem nearF_lt {n : Nat} : ∀ p ∈ nearF n, p.1 < n := fun p m => by
  obtain ⟨i, mi, rfl⟩ := List.mem_map.mp m
  exact List.mem_range.mp mi
theorem nearF_nd {n : Nat} : ((nearF n).map Prod.fst).Nodup := by
  unfold nearF
  rw [List.map_map]
  rw [show (List.range n).map (Prod.fst ∘ fun i => (i, i)) = List.range n from List.map_id _]
  exact List.nodup_range
theorem nearF_at {n i : Nat} (h : i < n) : (nearF n).lookup i = some i := mem_look nearF_nd (List.mem_map.mpr ⟨i, List.mem_range.mpr h, rfl⟩)
theorem near_look {rs : List Str} {A : Nat → Nat → Bool} (ok : RsOk rs) {i : Nat} (h : i < rs.length) : lookD (dKs rs (nearF rs.length)) (dXs (nearX rs A) (nearF rs.length)) (.inr (nm rs i)) = some (lotD rs (A i)) := by
  rw [look_at ok.2.1 h nearF_lt, nearF_at h]
  rfl
def othS (ds : List (Str × Str)) (x : Str) : List Str := (ds.filter fun d => decide (d.1 = x) || decide (d.2 = x)).map fun d => if d.2 = x then d.1 else d.2
theorem othS_mem {rs : List Str} {ds : List (Str × Str)} (po : DsOk rs ds) {x y : Str} : y ∈ othS ds x ↔ (x, y) ∈ ds ∨ (y, x) ∈ ds := by
  unfold othS
  rw [List.mem_map]
  constructor
  · rintro ⟨d, m, rfl⟩
    obtain ⟨m, h⟩ := List.mem_filter.mp m
    rw [Bool.or_eq_true, decide_eq_true_iff, decide_eq_true_iff] at h
    by_cases e : d.2 = x
    · rw [if_pos e]
      right
      rw [← e]
      exact m
    · rw [if_neg e]
      left
      rw [← h.resolve_right e]
      exact m
  · rintro (m | m)
    · refine ⟨_, List.mem_filter.mpr ⟨m, by simp⟩, ?_⟩
      rw [if_neg fun e => (po.1 _ m).2.2 e.symm]
    · exact ⟨_, List.mem_filter.mpr ⟨m, by simp⟩, by rw [if_pos rfl]⟩
theorem oth_pick {rs : List Str} {ds : List (Str × Str)} (po : DsOk rs ds) (i : Nat) : rs.filter (fun y => decide (y ∈ othS ds (nm rs i))) = pick rs (adjS rs ds i) := by
  rw [filter_pick]
  refine pick_ext fun j _ => ?_
  rw [Bool.eq_iff_iff, decide_eq_true_iff, othS_mem po, adjS_iff]
def spNear : DSp := fun dd Q _ => ∃ rs ds, dd = [.tup (rs.map .str), .tup (prs ds)] ∧ RsOk rs ∧ DsOk rs ds ∧ Q (.fz (nearV rs (adjS rs ds))) [.non, .non]
theorem kp__law_near {S : Sps} {C : Nat} : keeps [.fz, .fz] 7 spNear (w__law_near S C) := by
  refine keeps_i fun dd Q E hs hl K hn hr => ?_
  obtain ⟨rs, ds, rfl, ok, po, q⟩ := hs
  unfold w__law_near
  refine seq_i fun N hN => ?_
  simp
  refine hN _ ?_
  refine seq_i fun N hN => ?_
  have n16 := ok.2.2.2
  refine forW' [.fz (.tup (rs.map .str)), .fz (.tup (prs ds)), .ow (.dic [] []), .un, .un, .un, .un] (List.range rs.length) (nmD rs) (fun P h => ?_) (fun i ρ => ∃ c3 c4, ρ = [.fz (.tup (rs.map .str)), .fz (.tup (prs ds)), .ow (.dic (dKs rs (nearF i)) (dXs (nearX rs (adjS rs ds)) (nearF i))), c3, c4, .un, .un]) ⟨.un, .un, rfl⟩ (fun i hi ρ N2 hW hN2 => ?_) (fun ρ hW => ?_)
  · have e : (List.range rs.length).map (nmD rs) = rs.map .str := by
      conv => rhs; rw [nm_list rs]
      rw [List.map_map]
      rfl
    rw [e] at h
    simpa using h
  · obtain ⟨c3, c4, rfl⟩ := hW
    rw [List.length_range] at hi
    rw [List.getElem_range]
    have oi := ok.1 _ (nm_mem hi)
    refine seq_i fun N3 hN3 => ?_
    simp only [gN, List.set_cons_succ, List.set_cons_zero, nmD]
    have k1 : N3 [.fz (.tup (rs.map .str)), .fz (.tup (prs ds)), .ow (.dic (dKs rs (nearF i)) (dXs (nearX rs (adjS rs ds)) (nearF i))), .fz (.str (nm rs i)), .ow (.lst ((othS ds (nm rs i)).map .str)), .un, .un] := by
      refine hN3 _ ?_
      simp only [wAsg, gIx, wB, rsC, rE, rsN]
      refine lcB rs D.str (fun y => decide (y ∈ othS ds (nm rs i))) D.str (fun P h => by simpa using h) (len_sz n16) (fun y my P N h1 h2 => ?_) ?_
      · have gy := good_str (ok.1 y my).ok
        have go : (D.lst ((othS ds (nm rs i)).map D.str)).good = true := good_lst (n := 0) (fun d m => by
          obtain ⟨x, mx, rfl⟩ := List.mem_map.mp m
          rcases (othS_mem po).mp mx with m | m
          · exact (ok.1 _ (po.1 _ m).2.1).ok
          · exact (ok.1 _ (po.1 _ m).1).ok) fun d m => by rw [strs_py _ d m]; exact Nat.le_refl _
        simp [-List.any_map, gy, go, any_strs]
        by_cases hx : y ∈ othS ds (nm rs i)
        · simp [hx] at h1 ⊢
          exact h1
        · simp [hx] at h2 ⊢
          exact h2
      · rw [oth_pick po]
        have nn : (nearF i).lookup i = none := look_none.mpr fun p m e => by have := nearF_lt p m; omega
        have pn : putD (dKs rs (nearF i)) (dXs (nearX rs (adjS rs ds)) (nearF i)) (.inr (nm rs i)) (lotD rs (adjS rs ds i)) = _ := put_new (f := nearX rs (adjS rs ds)) (x := i) ok.2.1 hi (fun p m => Nat.lt_trans (nearF_lt p m) hi) nn
        have sc : nearF i ++ [(i, i)] = nearF (i + 1) := by unfold nearF; rw [List.range_succ, List.map_append]; rfl
        rw [sc] at pn
        unfold lotD at pn
        have ks : (dKs rs (nearF i)).length = i := by unfold dKs nearF; simp
        have th : 17 ≤ sizeLine := by decide
        simp [pn, ks]
        exact ⟨by omega, hN2 _ ⟨_, _, rfl⟩⟩
    simp only [wSet]
    refine lcB ds (fun d => D.tup [.str d.1, .str d.2]) (fun d => decide (d.1 = nm rs i) || decide (d.2 = nm rs i)) (fun d => D.str (if d.2 = nm rs i then d.1 else d.2)) (fun P h => by simpa [prs] using h) (Nat.le_trans po.2.2.2 (by decide)) (fun d md P N h1 h2 => ?_) ?_
    · have hd := po.1 d md
      have g1 := good_str (ok.1 _ hd.1).ok
      have g2 := good_str (ok.1 _ hd.2.1).ok
      have g3 := good_str oi.ok
      have g4 := good_pair (ok.1 _ hd.1) (ok.1 _ hd.2.1)
      simp [g1, g2, g3, g4]
      simp at h1 h2
      by_cases hc : d.1 = nm rs i ∨ d.2 = nm rs i
      · rw [if_pos hc]
        have h1 := h1 hc
        by_cases hc2 : d.2 = nm rs i
        · rw [if_pos hc2] at h1 ⊢
          exact h1
        · rw [if_neg hc2] at h1 ⊢
          exact h1
      · rw [if_neg hc]
        rw [not_or] at hc
        exact h2 hc.1 hc.2
    · simp
      have e : (ds.filter fun d => decide (d.1 = nm rs i) || decide (d.2 = nm rs i)).map (fun d => D.str (if d.2 = nm rs i then d.1 else d.2)) = (othS ds (nm rs i)).map .str := by
        unfold othS
        rw [List.map_map]
        rfl
      rw [e]
      exact k1
  · obtain ⟨c3, c4, rfl⟩ := hW
    rw [List.length_range]
    refine hN _ ?_
    simp
    refine hr _ _ ?_
    simpa [nearV] using q
end K01

set_option Elab.async false
set_option linter.all false
set_option maxRecDepth 100000
set_option maxHeartbeats 2000000
namespace K01
open PySem L2 PySem.Spec PyProof.Rows Pu TL
def Free (rs : List Str) (f : Nat → Bool) (d : D) : Prop := d = lotD rs f ∨ d = .lst ((pick rs f).map .str)
theorem free_in {rs : List Str} {f : Nat → Bool} {fr : D} {i j k : Nat} {E : EX} {ρ : En} {R : Bool → En → Prop} (ok : RsOk rs) (h : Free rs f fr) (hi : i < rs.length) (hj : ρ[j]? = some (.fz (nmD rs i))) (hk : ρ[k]? = some (.fz fr)) (hR : R (f i) ρ) : tV (wOp kIn (rN j) (rN k)) E ρ R := by
  have ea : (((pick rs f).map D.str).any fun z => beq z (.str (nm rs i))) = f i := by
    rw [any_strs, Bool.eq_iff_iff, decide_eq_true_iff]
    exact mem_pick ok.2.1 hi
  have gx := good_str (ok.1 _ (nm_mem hi)).ok
  have gt := good_lot ok f
  have gl : (D.lst ((pick rs f).map .str)).good = true := gt
  unfold nmD at hj
  unfold Free at h
  unfold lotD at gt h
  rcases h with rfl | rfl
  · simp [-List.any_map, hj, hk, gx, gt, ea]
    exact hR
  · simp [-List.any_map, hj, hk, gx, gl, ea]
    exact hR
theorem any_nms {rs : List Str} (ok : RsOk rs) {P : List Nat} (hP : ∀ i ∈ P, i < rs.length) {j : Nat} (hj : j < rs.length) : ((P.map (nmD rs)).any fun z => beq z (.str (nm rs j))) = decide (j ∈ P) := by
  have e : P.map (nmD rs) = (P.map (nm rs)).map .str := by rw [List.map_map]; rfl
  rw [e, any_strs, Bool.eq_iff_iff, decide_eq_true_iff, decide_eq_true_iff, List.mem_map]
  constructor
  · rintro ⟨i, m, e⟩
    rw [← nm_inj ok.2.1 (hP i m) hj e]
    exact m
  · exact fun m => ⟨j, m, rfl⟩
/-- not yet all of a list -/
theorem nms_ne {rs : List Str} {k : Nat} {L : List Nat} {E : EX} {ρ : En} {R : Bool → En → Prop} (ok : RsOk rs) (hL : ∀ i ∈ L, i < rs.length) (hk : ρ[k]? = some (.ow (nmsD rs L)) ∨ ρ[k]? = some (.fz (nmsD rs L))) (hR : R (!decide (L = [])) ρ) : tV (wOp kNe (rN k) (rE (wLst vsN))) E ρ R := by
  have gL := good_nms ok hL
  have eb := beq_nms (rs := rs) (L := L)
  have g0 : (D.lst []).good = true := rfl
  unfold nmsD at *
  rcases hk with hk | hk
  · simp [hk, gL, g0, eb]
    simpa using hR
  · simp [hk, gL, g0, eb]
    simpa using hR
/-- a name is not in a list of one's own -/
theorem nms_nin {rs : List Str} {j k i : Nat} {P : List Nat} {E : EX} {ρ : En} {R : Bool → En → Prop} (ok : RsOk rs) (hP : ∀ i ∈ P, i < rs.length) (hi : i < rs.length) (hj : ρ[j]? = some (.fz (nmD rs i))) (hk : ρ[k]? = some (.ow (nmsD rs P))) (hR : R (!decide (i ∈ P)) ρ) : tV (wOp kNotIn (rN j) (rN k)) E ρ R := by
  have gx := good_str (ok.1 _ (nm_mem hi)).ok
  have gL := good_nms ok hP
  have ea := any_nms ok hP hi
  unfold nmsD at *
  unfold nmD at hj
  simp [-List.any_map, hj, hk, gx, gL, ea]
  exact hR
theorem nms_in {rs : List Str} {j k i : Nat} {P : List Nat} {E : EX} {ρ : En} {R : Bool → En → Prop} (ok : RsOk rs) (hP : ∀ i ∈ P, i < rs.length) (hi : i < rs.length) (hj : ρ[j]? = some (.fz (nmD rs i))) (hk : ρ[k]? = some (.ow (nmsD rs P))) (hR : R (decide (i ∈ P)) ρ) : tV (wOp kIn (rN j) (rN k)) E ρ R := by
  have gx := good_str (ok.1 _ (nm_mem hi)).ok
  have gL := good_nms ok hP
  have ea := any_nms ok hP hi
  unfold nmsD at *
  unfold nmD at hj
  simp [-List.any_map, hj, hk, gx, gL, ea]
  exact hR
def spLawParts : DSp := fun ds Q _ => ∃ rs A f fr, ds = [.tup (rs.map .str), nearV rs A, fr] ∧ Free rs f fr ∧ RsOk rs ∧ Q (.fz (.lst (partsD rs A f))) [.non, .non, .non]
noncomputable def foundD (rs : List Str) (A : Nat → Nat → Bool) (f : Nat → Bool) (i : Nat) : D := .lst ((nums i (isRep rs.length A f)).map fun r => lotD rs (conn rs.length A f r))
theorem kp__law_parts {S : Sps} {C : Nat} : keeps [.fz, .fz, .fz] 8 spLawParts (w__law_parts S C) := by
  refine keeps_i fun dd Q E hs hl K hn hr => ?_
  obtain ⟨rs, A, f, fr, rfl, hf, ok, q⟩ := hs
  have n16 := ok.2.2.2
  unfold w__law_parts
  refine seq_i fun N hN => ?_
  simp
  refine hN _ ?_
  refine seq_i fun N hN => ?_
  refine forW' [.fz (.tup (rs.map .str)), .fz (nearV rs A), .fz fr, .ow (.lst []), .un, .un, .un, .un] (List.range rs.length) (nmD rs) (fun P h => ?_) (fun i ρ => ∃ c4 c5 c6 c7, ρ = [.fz (.tup (rs.map .str)), .fz (nearV rs A), .fz fr, .ow (foundD rs A f i), c4, c5, c6, c7]) ⟨.un, .un, .un, .un, rfl⟩ (fun i hi ρ N2 hW hN2 => ?_) (fun ρ hW => ?_)
  · have e : (List.range rs.length).map (nmD rs) = rs.map .str := by
      conv => rhs; rw [nm_list rs]
      rw [List.map_map]
      rfl
    rw [e] at h
    simpa using h
  · obtain ⟨c4, c5, c6, c7, rfl⟩ := hW
    rw [List.length_range] at hi
    rw [List.getElem_range]
    simp only [gN, List.set_cons_succ, List.set_cons_zero]
    refine ifS_i fun A1 B1 hA hB => ?_
    simp only [Pu.tAnd, Pu.tNot]
    refine free_in ok hf hi rfl rfl ?_
    have hN1 : ∀ c4 c5 c6 c7, isRep rs.length A f i = false → N2 [.fz (.tup (rs.map .str)), .fz (nearV rs A), .fz fr, .ow (foundD rs A f i), c4, c5, c6, c7] := fun c4 c5 c6 c7 e => hN2 _ ⟨c4, c5, c6, c7, by unfold foundD; rw [nums_succ, e]; simp⟩
    cases hfi : f i with
    | false =>
      have ri : isRep rs.length A f i = false := by unfold isRep; rw [hfi]; rfl
      refine hB _ ?_
      simp only [wPass]
      exact hN1 _ _ _ _ ri
    | true =>
      have ri := rep_iff (A := A) hi hfi
      rw [if_pos rfl]
      simp only [tV, wB, rsC, rE, rsN]
      have nx : ∀ x, x ∈ nums i (isRep rs.length A f) → x < rs.length := fun x m => Nat.lt_trans (mem_nums.mp m).1 hi
      have gx := good_str (ok.1 _ (nm_mem hi)).ok
      refine lcRM (nums i (isRep rs.length A f)) (fun r => lotD rs (conn rs.length A f r)) (fun r => .bl (conn rs.length A f r i)) rfl (by decide) ?_ (fun x m P h => ?_) ?_
      · have := List.length_filter_le (isRep rs.length A f) (List.range i)
        rw [List.length_range] at this
        exact thou (show (nums i (isRep rs.length A f)).length ≤ 1000 from Nat.le_trans this (by omega))
      · have gt := good_lot ok (conn rs.length A f x)
        have ea : (((pick rs (conn rs.length A f x)).map D.str).any fun z => beq z (.str (nm rs i))) = conn rs.length A f x i := by
          rw [any_strs, Bool.eq_iff_iff, decide_eq_true_iff]
          exact mem_pick ok.2.1 hi
        unfold lotD at gt
        simp [-List.any_map, lotD, nmD, gx, gt, ea]
        simpa [nmD] using h
      · simp [blsOf_m]
        by_cases hx : ∃ x, x ∈ nums i (isRep rs.length A f) ∧ conn rs.length A f x i = true
        · rw [if_pos hx]
          refine hB _ ?_
          simp only [wPass]
          exact hN1 _ _ _ _ (by rw [← Bool.not_eq_true, ri]; exact fun h => h hx)
        · rw [if_neg hx]
          have ri := ri.mpr hx
          refine hA _ ?_
          generalize (match c5 with | Sl.fz d => Sl.fz d | x => Sl.un) = c5'
          refine seq_i fun N3 hN3 => ?_
          have k1 : N3 [.fz (.tup (rs.map .str)), .fz (nearV rs A), .fz fr, .ow (foundD rs A f i), .fz (nmD rs i), .ow (nmsD rs [i]), .ow (nmsD rs [i]), c7] := by
            refine hN3 _ ?_
            refine seq_i fun N4 hN4 => ?_
            refine while_i (fun m ρ => ∃ P W c7, ρ = [.fz (.tup (rs.map .str)), .fz (nearV rs A), .fz fr, .ow (foundD rs A f i), .fz (nmD rs i), .ow (nmsD rs P), .ow (nmsD rs W), c7] ∧ Dfs rs.length A f i P W ∧ m ≤ 2 * rs.length ∧ m = 2 * (rs.length - P.length) + W.length) ⟨_, [i], [i], c7, rfl, Dfs.first hi, by simp only [List.length_singleton]; omega, rfl⟩ ?_
            rintro m0 ρ ⟨P, W, c7, rfl, df, mb, rfl⟩ N5 hN5
            have ltP : ∀ j ∈ P, j < rs.length := fun j m => (df.un j m).1
            refine nms_ne ok (fun j m => ltP j (df.ws j m)) (.inl rfl) ?_
            rcases List.eq_nil_or_concat W with rfl | ⟨W', x, rfl⟩
            · refine hN4 _ ?_
              have gP := good_nms ok ltP
              simp only [wDrop, wMut, vsC, vsN, wB, rsC, rE, rsN]
              have fin : N2 [.fz (.tup (rs.map .str)), .fz (nearV rs A), .fz fr, .ow (foundD rs A f (i + 1)), .fz (nmD rs i), .ow (nmsD rs P), .ow (nmsD rs []), c7.keep] := hN2 _ ⟨_, _, _, _, rfl⟩
              simp only [foundD, lent, with1, tyD, List.getElem?_cons_succ, List.getElem?_cons_zero]
              refine ⟨by simp, ?_⟩
              refine lcB (List.range rs.length) (nmD rs) (fun j => decide (j ∈ P)) (nmD rs) (fun P h => ?_) (by rw [List.length_range]; exact len_sz n16) (fun j mj P2 N7 h1 h2 => ?_) ?_
              · have e : (List.range rs.length).map (nmD rs) = rs.map .str := by
                  conv => rhs; rw [nm_list rs]
                  rw [List.map_map]
                  rfl
                rw [e] at h
                simpa using h
              · have hj := List.mem_range.mp mj
                refine nms_in (P := P) ok ltP hj rfl rfl ?_
                by_cases hjP : j ∈ P
                · rw [decide_eq_true hjP, if_pos rfl]
                  simp
                  have := h1 (decide_eq_true hjP)
                  simpa [nmD] using this
                · rw [decide_eq_false hjP, if_neg (by simp)]
                  have := h2 (decide_eq_false hjP)
                  simpa using this
              · have e1 : (List.range rs.length).filter (fun j => decide (j ∈ P)) = nums rs.length (conn rs.length A f i) := by
                  unfold nums
                  refine List.filter_congr fun j mj => ?_
                  rw [Bool.eq_iff_iff, decide_eq_true_iff, conn_iff, df.out]
                  exact ⟨fun h => h.2, fun h => ⟨List.mem_range.mp mj, h⟩⟩
                have e2 : D.tup ((nums rs.length (conn rs.length A f i)).map (nmD rs)) = lotD rs (conn rs.length A f i) := by
                  unfold lotD
                  rw [pick_eq, List.map_map]
                  rfl
                rw [e1]
                simp
                have sl : (nums i (isRep rs.length A f)).length < sizeLine := by
                  have := List.length_filter_le (isRep rs.length A f) (List.range i)
                  rw [List.length_range] at this
                  exact Nat.lt_of_le_of_lt this (Nat.lt_of_lt_of_le (show i < 17 by omega) (by decide))
                rw [e2]
                refine ⟨sl, ?_⟩
                unfold foundD at fin
                rw [nums_succ, ri, if_pos rfl, List.map_append] at fin
                simpa using fin
            · rw [List.concat_eq_append] at *
              have en : (!decide (W' ++ [x] = [])) = true := by simp
              rw [en]
              refine hN5 _ ?_
              have fm := df.pop
              have hx := ltP x fm.me
              refine forW' [.fz (.tup (rs.map .str)), .fz (nearV rs A), .fz fr, .ow (foundD rs A f i), .fz (nmD rs i), .ow (nmsD rs P), .ow (nmsD rs W'), c7] (nums rs.length (A x)) (nmD rs) (fun P h => ?_) (fun t ρ => ∃ P' W2 c7, ρ = [.fz (.tup (rs.map .str)), .fz (nearV rs A), .fz fr, .ow (foundD rs A f i), .fz (nmD rs i), .ow (nmsD rs P'), .ow (nmsD rs W2), c7] ∧ DfsM rs.length A f i x P' W2 ∧ (∀ j ∈ (nums rs.length (A x)).take t, f j = true → j ∈ P') ∧ 2 * (rs.length - P'.length) + W2.length < 2 * (rs.length - P.length) + (W' ++ [x]).length) ⟨P, W', c7, rfl, fm, by simp, by rw [List.length_append, List.length_singleton]; omega⟩ (fun t ht ρ N6 hW hN6 => ?_) (fun ρ hW => ?_)
              · have nl := near_look (A := A) ok hx
                have en : lotD rs (A x) = .tup ((nums rs.length (A x)).map (nmD rs)) := by
                  unfold lotD
                  rw [pick_eq, List.map_map]
                  rfl
                rw [en] at nl
                simp [nearV, nmsD, nmD, nl]
                simpa [nearV, nmsD, nmD] using h
              · obtain ⟨P', W2, c7, rfl, fm', cu, ms⟩ := hW
                obtain ⟨j, ej⟩ : ∃ j, j = (nums rs.length (A x))[t] := ⟨_, rfl⟩
                rw [← ej]
                have jm : j ∈ nums rs.length (A x) := ej ▸ List.getElem_mem ht
                obtain ⟨hj, ha⟩ := mem_nums.mp jm
                have tk : (nums rs.length (A x)).take (t + 1) = (nums rs.length (A x)).take t ++ [j] := by rw [List.take_add_one, List.getElem?_eq_getElem ht, ej]; rfl
                simp only [gN, List.set_cons_succ, List.set_cons_zero]
                refine ifS_i fun A2 B2 hA2 hB2 => ?_
                have skip : (f j = true → j ∈ P') → B2 [.fz (.tup (rs.map .str)), .fz (nearV rs A), .fz fr, .ow (foundD rs A f i), .fz (nmD rs i), .ow (nmsD rs P'), .ow (nmsD rs W2), .fz (nmD rs j)] := fun hs => by
                  refine hB2 _ ?_
                  simp only [wPass]
                  refine hN6 _ ⟨P', W2, _, rfl, fm', fun a ma => ?_, ms⟩
                  rw [tk] at ma
                  rcases List.mem_append.mp ma with ma | ma
                  · exact cu a ma
                  · rw [List.mem_singleton.mp ma]
                    exact hs
                simp only [Pu.tAnd]
                refine free_in ok hf hj rfl rfl ?_
                cases hfj : f j with
                | false => exact skip fun e => by rw [hfj] at e; cases e
                | true =>
                  rw [if_pos rfl]
                  refine nms_nin ok (fun a m => (fm'.un a m).1) hj rfl rfl ?_
                  by_cases hjP : j ∈ P'
                  · rw [decide_eq_true hjP]
                    exact skip fun _ => hjP
                  · rw [decide_eq_false hjP]
                    refine hA2 _ ?_
                    have fm2 := fm'.add hj ha hfj hjP
                    have fl := fm2.few
                    rw [List.length_append, List.length_singleton] at fl
                    have th : 100 ≤ sizeLine := by decide
                    have wl : W2.length ≤ 40 := by omega
                    simp [nmsD, nmD]
                    refine ⟨by omega, by omega, hN6 _ ⟨P' ++ [j], W2 ++ [j], .fz (.str (nm rs j)), by simp [nmsD, nmD], fm2, fun a ma hfa => ?_, ?_⟩⟩
                    · rw [tk] at ma
                      rcases List.mem_append.mp ma with ma | ma
                      · exact List.mem_append_left _ (cu a ma hfa)
                      · exact List.mem_append_right _ ma
                    · rw [List.length_append, List.length_append, List.length_singleton]
                      omega
              · obtain ⟨P', W2, c7, rfl, fm', cu, ms⟩ := hW
                rw [List.take_length] at cu
                exact ⟨_, ms, P', W2, _, rfl, fm'.done fun j hj ha hfj => cu j (mem_nums.mpr ⟨hj, ha⟩) hfj, by omega, rfl⟩
          simpa [nmsD, nmD] using k1
  · obtain ⟨c4, c5, c6, c7, rfl⟩ := hW
    rw [List.length_range]
    refine hN _ ?_
    simp
    refine hr _ _ ?_
    simpa [foundD, partsD, reps] using q
end K01

set_option Elab.async false
set_option linter.all false
set_option maxRecDepth 100000
set_option maxHeartbeats 2000000
namespace K01
open PySem L2 PySem.Spec PyProof.Rows Pu TL
theorem rs_nms (rs : List Str) : (List.range rs.length).map (nmD rs) = rs.map .str := by
  conv => rhs; rw [nm_list rs]
  rw [List.map_map]
  rfl
theorem lot_nms {rs : List Str} {p : Nat → Bool} : lotD rs p = .tup ((nums rs.length p).map (nmD rs)) := by
  unfold lotD
  rw [pick_eq, List.map_map]
  rfl
def spLot : DSp := fun ds Q _ => ∃ (p : D) (k : Nat) (rs : List Str), ds = [p, .tup (rs.map .str)] ∧ PotOk k p ∧ k + 20 < 2 ^ 30 ∧ RsOk rs ∧ ∀ (q : Nat → Bool) (p' : D), PotOk (k + 16) p' → Q (.fz (lotD rs q)) [p', .non]
theorem kp__law_lot {S : Sps} {C : Nat} (h1 : S._law_take = spTake) : keeps [.io, .fz] 3 spLot (w__law_lot S C) := by
  refine keeps_i fun ds Q E hs hl K hn hr => ?_
  obtain ⟨p, k, rs, rfl, pk, hk, ok, q⟩ := hs
  have n16 := ok.2.2.2
  unfold w__law_lot
  refine ret_i ?_
  simp only [wB, rsC, rE, rsN]
  refine lcT [.io 0 p, .fz (.tup (rs.map .str)), .un] (List.range rs.length) (nmD rs) (fun P h => ?_) (fun i acc ρ => ∃ q p', ρ = [.io 0 p', .fz (.tup (rs.map .str)), .un] ∧ PotOk (k + i) p' ∧ acc = (nums i q).map (nmD rs)) ⟨fun _ => false, p, rfl, pk, rfl⟩ (fun i hi acc ρ P N hW hP hN => ?_) (fun acc ρ hW => ?_)
  · rw [rs_nms] at h
    simpa using h
  · obtain ⟨q', p', rfl, pk', rfl⟩ := hW
    rw [List.length_range] at hi
    rw [List.getElem_range]
    simp [h1]
    refine ⟨p', _, 2, rfl, pk', by omega, by decide, by decide, fun r p2 r0 r1 pk2 => ?_⟩
    have sm : ∀ b, nums i (fun j => if j = i then b else q' j) = nums i q' := fun b => nums_ext fun j hj => by rw [if_neg (by omega)]
    have sl : ((nums i q').map (nmD rs)).length < sizeLine := by
      rw [List.length_map]
      have : (nums i q').length ≤ i := by
        have := List.length_filter_le q' (List.range i)
        rw [List.length_range] at this
        exact this
      exact Nat.lt_of_lt_of_le (show _ < 17 by omega) (by decide)
    simp
    by_cases hr0 : r = 0
    · rw [if_pos hr0]
      refine hP _ _ sl ⟨fun j => if j = i then true else q' j, p2, rfl, pk2, ?_⟩
      rw [nums_succ, sm, if_pos (by simp), List.map_append]
      rfl
    · rw [if_neg hr0]
      refine hN _ ⟨fun j => if j = i then false else q' j, p2, rfl, pk2, ?_⟩
      rw [nums_succ, sm, if_neg (by simp), List.append_nil]
  · obtain ⟨q', p', rfl, pk', rfl⟩ := hW
    rw [List.length_range] at pk' ⊢
    simp
    refine hr _ _ ?_
    have := q q' p' (pk'.le (by omega))
    rw [lot_nms] at this
    simpa using this
/-! how far it is -/
def natD (k : Nat) : D := .int k
def farD (rs : List Str) (F : List (Nat × Nat)) : D := .dic (dKs rs F) (dXs natD F)
def spFar : DSp := fun ds Q _ => ∃ rs A s, ds = [nearV rs A, .str (nm rs s)] ∧ RsOk rs ∧ s < rs.length ∧ ∀ F, Fa rs.length A s F [] → Q (.fz (farD rs F)) [.non, .non]
theorem kp__law_far {S : Sps} {C : Nat} : keeps [.fz, .fz] 6 spFar (w__law_far S C) := by
  refine keeps_i fun ds Q E hs hl K hn hr => ?_
  obtain ⟨rs, A, s, rfl, ok, hs, q⟩ := hs
  have n16 := ok.2.2.2
  unfold w__law_far
  refine seq_i fun N hN => ?_
  have e0 : putD [] [] (Sum.inr (nm rs s)) (D.int 0) = farD rs [(s, 0)] := rfl
  simp [e0]
  refine hN _ ?_
  refine seq_i fun N hN => ?_
  refine while_i (fun m ρ => ∃ F L c4 c5, ρ = [.fz (nearV rs A), .fz (.str (nm rs s)), .ow (farD rs F), .ow (nmsD rs L), c4, c5] ∧ Fa rs.length A s F L ∧ m ≤ 2 * rs.length ∧ m = 2 * (rs.length - F.length) + L.length) ⟨_, [(s, 0)], [s], _, _, rfl, Fa.first hs, by simp only [List.length_singleton]; omega, rfl⟩ ?_
  rintro m0 ρ ⟨F, L, c4, c5, rfl, fa, mb, rfl⟩ N1 hN1
  have ltL : ∀ i ∈ L, i < rs.length := fun i m => by
    obtain ⟨d, md⟩ := fa.qs i m
    exact fa.lt _ md
  refine nms_ne ok ltL (.inl rfl) ?_
  cases L with
  | nil =>
    refine hN _ ?_
    simp
    refine hr _ _ ?_
    simpa using q F fa
  | cons i L =>
    refine hN1 _ ?_
    refine seq_i fun N2 hN2 => ?_
    have hi : i < rs.length := ltL i (List.mem_cons_self ..)
    obtain ⟨d, fm⟩ := fa.pop
    have sq0 : PySem.seqIndex? 0 ((L.map (nmD rs)).length + 1) = some 0 := seqI (n := (L.map (nmD rs)).length + 1) (i := 0) (by omega)
    have k1 : N2 [.fz (nearV rs A), .fz (.str (nm rs s)), .ow (farD rs F), .ow (nmsD rs L), .fz (nmD rs i), c5] := by
      refine hN2 _ ?_
      refine forW' _ (nums rs.length (A i)) (nmD rs) (fun P h => ?_) (fun t ρ => ∃ F' L' c5, ρ = [.fz (nearV rs A), .fz (.str (nm rs s)), .ow (farD rs F'), .ow (nmsD rs L'), .fz (nmD rs i), c5] ∧ FaM rs.length A s i d F' L' ∧ (∀ j ∈ (nums rs.length (A i)).take t, ∃ e, (j, e) ∈ F') ∧ 2 * (rs.length - F'.length) + L'.length < 2 * (rs.length - F.length) + (L.length + 1)) ⟨F, L, c5, rfl, fm, by simp, by omega⟩ (fun t ht ρ N5 hW hN5 => ?_) (fun ρ hW => ?_)
      · have nl := near_look (A := A) ok hi
        rw [lot_nms] at nl
        simp [nearV, nmD, nl]
        simpa [nearV, nmD] using h
      · obtain ⟨F', L', c5, rfl, fm', cu, ms⟩ := hW
        obtain ⟨j, ej⟩ : ∃ j, j = (nums rs.length (A i))[t] := ⟨_, rfl⟩
        rw [← ej]
        have jm : j ∈ nums rs.length (A i) := ej ▸ List.getElem_mem ht
        obtain ⟨hj, ha⟩ := mem_nums.mp jm
        have ltF' := fm'.lt
        have tk : (nums rs.length (A i)).take (t + 1) = (nums rs.length (A i)).take t ++ [j] := by rw [List.take_add_one, List.getElem?_eq_getElem ht, ej]; rfl
        have lk : ∀ x, x < rs.length → lookD (dKs rs F') (dXs natD F') (.inr (nm rs x)) = (F'.lookup x).map natD := fun x hx => look_at ok.2.1 hx ltF'
        simp only [gN, List.set_cons_succ, List.set_cons_zero]
        cases hlk : F'.lookup j with
        | some p =>
          simp [farD, nmD, lk j hj, hlk]
          refine hN5 _ ⟨F', L', _, rfl, fm', fun x mx => ?_, ms⟩
          rw [tk] at mx
          rcases List.mem_append.mp mx with mx | mx
          · exact cu x mx
          · rw [List.mem_singleton.mp mx]
            exact ⟨p, look_mem hlk⟩
        | none =>
          have lki := mem_look fm'.nd fm'.me
          have fm2 := fm'.add ha hj (look_none.mp hlk)
          have fl := few_keys fm2.nd fm2.lt
          rw [List.length_append, List.length_singleton] at fl
          have pn : putD (dKs rs F') (dXs natD F') (.inr (nm rs j)) (natD (d + 1)) = _ := put_new ok.2.1 hj ltF' hlk
          have ew : natD (d + 1) = .int (d + 1) := rfl
          rw [ew] at pn
          have ks : (dKs rs F').length = F'.length := by unfold dKs; rw [List.length_map]
          have th : 100 ≤ sizeLine := by decide
          have lq : L'.length ≤ 40 := by rw [List.length_cons] at mb; omega
          simp [farD, nmD, lk j hj, hlk, lk i hi, lki, natD, pn, ks, nmsD]
          refine ⟨by omega, by omega, hN5 _ ⟨F' ++ [(j, d + 1)], L' ++ [j], .fz (.str (nm rs j)), by simp [farD, nmsD, nmD], fm2, fun x mx => ?_, ?_⟩⟩
          · rw [tk] at mx
            rcases List.mem_append.mp mx with mx | mx
            · obtain ⟨y, my⟩ := cu x mx
              exact ⟨y, List.mem_append_left _ my⟩
            · rw [List.mem_singleton.mp mx]
              exact ⟨_, List.mem_append_right _ (List.mem_singleton.mpr rfl)⟩
          · rw [List.length_append, List.length_append, List.length_singleton, List.length_singleton]
            omega
      · obtain ⟨F', L', c5, rfl, fm', cu, ms⟩ := hW
        rw [List.take_length] at cu
        simp only
        exact ⟨_, ms, F', L', _, _, rfl, fm'.done fun j hj ha => cu j (mem_nums.mpr ⟨hj, ha⟩), by rw [List.length_cons] at mb; omega, rfl⟩
    simp [nmsD]
    have k2 : PySem.seqIndex? 0 (L.length + 1) = some 0 := seqI (n := L.length + 1) (i := 0) (by omega)
    rw [k2]
    simp
    simpa [nmsD] using k1
theorem look_not {ks : List Ky} {xs : List D} {k : Ky} (h : k ∉ ks) : lookD ks xs k = none := by
  induction ks generalizing xs with
  | nil => cases xs <;> rfl
  | cons a ks ih =>
    cases xs with
    | nil => rfl
    | cons x xs =>
      show (if a = k then some x else lookD ks xs k) = none
      rw [if_neg fun e => h (by rw [e]; exact List.mem_cons_self ..)]
      exact ih fun m => h (List.mem_cons_of_mem _ m)
theorem near_in {rs : List Str} {A : Nat → Nat → Bool} (ok : RsOk rs) (x : Str) : (lookD (dKs rs (nearF rs.length)) (dXs (nearX rs A) (nearF rs.length)) (.inr x)).isSome = decide (x ∈ rs) := by
  by_cases h : x ∈ rs
  · have := near_look (A := A) ok (ix_lt h)
    rw [nm_ix h] at this
    rw [this]
    simp [h]
  · rw [look_not]
    · simp [h]
    · intro m
      obtain ⟨p, mp, e⟩ := List.mem_map.mp m
      have e := Sum.inr.inj e
      exact h (e ▸ nm_mem (nearF_lt p mp))
def inB (rs : List Str) : D → Bool
  | .str x => decide (x ∈ rs)
  | _ => false
def spIsWay : DSp := fun ds Q _ => ∃ rs A s t v, ds = [nearV rs A, .str (nm rs s), .str (nm rs t), v] ∧ RsOk rs ∧ s < rs.length ∧ t < rs.length ∧ valOk v ∧ ∀ b, ShowsV rs A s t v b → Q (.fz (.bl b)) [.non, .non, .non, .non]
theorem kp__law_is_way {S : Sps} {C : Nat} (h1 : S._law_far = spFar) : keeps [.fz, .fz, .fz, .fz] 8 spIsWay (w__law_is_way S C) := by
  refine keeps_i fun ds Q E hs hl K hn hr => ?_
  obtain ⟨rs, A, s, t, v, rfl, ok, hs, ht, hv, q⟩ := hs
  unfold w__law_is_way
  refine seq_i fun N hN => ?_
  simp [h1]
  refine ⟨rs, A, s, rfl, ok, hs, fun F fa => ?_⟩
  have fin : ∀ b, ShowsV rs A s t v b → K.rt (.fz (.bl b)) [.fz (nearV rs A), .fz (.str (nm rs s)), .fz (.str (nm rs t)), .fz v, .fz (farD rs F), .un, .un, .un] := fun b sb => by
    refine hr _ _ ?_
    simpa using q b sb
  simp
  refine hN _ ?_
  obtain ⟨o1, o2⟩ := fa.out
  have lk := look_at (f := natD) ok.2.1 ht fa.lt
  refine seq_i fun N hN => ?_
  cases hlk : F.lookup t with
  | none =>
    rw [hlk] at lk
    have no : ∀ d, ¬ Hops rs.length A d s t := fun d w => by
      obtain ⟨e, m⟩ := o2 d t w
      exact look_none.mp hlk _ m rfl
    simp [-isN, farD, lk]
    refine fin _ ?_
    unfold ShowsV
    rw [isN_iff]
    constructor
    · intro e; exact .inl ⟨no, e⟩
    · rintro (⟨_, e⟩ | ⟨d, l, dd, _⟩)
      · exact e
      · exact absurd dd.1 (no d)
  | some d =>
    rw [hlk] at lk
    have dd := o1 _ (look_mem hlk)
    have hasd : ∀ b, (b = true ↔ ∃ l, tupS v = some l ∧ WayL rs A s t d l) → ShowsV rs A s t v b := fun b hb => by
      unfold ShowsV
      rw [hb]
      constructor
      · rintro ⟨l, e, w⟩; exact .inr ⟨d, l, dd, e, w⟩
      · rintro (⟨no, _⟩ | ⟨d', l, dd', e, w⟩)
        · exact absurd dd.1 (no d)
        · rw [dd'.one dd] at w
          exact ⟨l, e, w⟩
    cases hi : isN v with
    | true =>
      have := isN_iff.mp hi
      subst this
      simp [-isN, farD, lk, isN_non]
      refine fin _ (hasd _ ⟨fun e => (by cases e), fun h => by obtain ⟨l, e, _⟩ := h; cases e⟩)
    | false =>
      simp [-isN, farD, lk, hi]
      refine hN _ ?_
      refine seq_i fun N hN => ifS_i fun A1 B1 hA hB => ?_
      have no : (¬ ∃ l, tupS v = some l ∧ WayL rs A s t d l) → A1 [.fz (nearV rs A), .fz (.str (nm rs s)), .fz (.str (nm rs t)), .fz v, .fz (farD rs F), .un, .un, .un] := fun h => by
        refine hA _ ?_
        simp
        exact fin _ (hasd _ ⟨fun e => (by cases e), fun h2 => absurd h2 h⟩)
      have f3 : ∀ xs : List D, v = .tup xs → xs.length ≤ 1000 ∧ ∀ x ∈ xs, itOk x := hv.2
      have test : ∀ (xs : List D) (R : Bool → En → Prop), v = .tup xs → R (xs.all (inB rs)) [.fz (nearV rs A), .fz (.str (nm rs s)), .fz (.str (nm rs t)), .fz v, .fz (farD rs F), .un, .un, .un] → tV (wB kAll (rsC (rE (wLc (iSq (wN 3)) (gN 5) Pu.tYes (wAnd (wIsTy "str" (rN 5)) (wOp kIn (rN 5) (rN 0))) [5])) rsN)) K.ex [.fz (nearV rs A), .fz (.str (nm rs s)), .fz (.str (nm rs t)), .fz v, .fz (farD rs F), .un, .un, .un] R := fun xs R ev hR => by
        subst ev
        refine bs_all (j := 3) xs id (inB rs) _ (fun P h => by simpa using h) rfl (f3 xs rfl).1 (fun x m Q q => ?_) hR
        have ix := (f3 xs rfl).2 x m
        simp only [wAnd]
        refine isstr ix rfl ?_
        cases x with
        | str y =>
          have e1 := near_in (A := A) ok y
          simp [nearV, e1, isS]
          simpa [nearV, inB] using q
        | _ => exact q
      simp only [Pu.tOr, Pu.tNot]
      refine istup hv rfl ?_
      rcases val_cases hv with ⟨f1, f2⟩ | ⟨xs, rfl, f1, f2, f3, f4⟩ | ⟨l, rfl, f2, f3, f4⟩
      · rw [f1]
        exact no fun h => by obtain ⟨l, e, _⟩ := h; rw [f2] at e; cases e
      · refine test xs _ rfl ?_
        have nn : xs.all (inB rs) = false := by
          rw [Bool.eq_false_iff] at f1 ⊢
          intro h
          refine f1 (List.all_eq_true.mpr fun x m => ?_)
          have := List.all_eq_true.mp h x m
          cases x <;> first | rfl | cases this
        rw [nn]
        exact no fun h => by obtain ⟨l, e, _⟩ := h; rw [f2] at e; cases e
      · refine test _ _ rfl ?_
        have el : (l.map D.str).all (inB rs) = l.all fun x => decide (x ∈ rs) := by rw [List.all_map]; rfl
        rw [el]
        cases hall : l.all (fun x => decide (x ∈ rs)) with
        | false =>
          refine no fun h => ?_
          obtain ⟨l', e, w⟩ := h
          rw [f2] at e
          cases e
          rw [Bool.eq_false_iff] at hall
          exact hall (List.all_eq_true.mpr fun x m => decide_eq_true (w.2.1 x m))
        | true =>
          have hin : ∀ x ∈ l, x ∈ rs := fun x m => by simpa using List.all_eq_true.mp hall x m
          refine hB _ ?_
          simp only [wPass]
          refine hN _ ?_
          clear no test hN N A1 B1 hA hB
          refine seq_i fun N hN => ifS_i fun A1 B1 hA hB => ?_
          have no : (¬ ∃ l', tupS (.tup (l.map .str)) = some l' ∧ WayL rs A s t d l') → A1 [.fz (nearV rs A), .fz (.str (nm rs s)), .fz (.str (nm rs t)), .fz (.tup (l.map .str)), .fz (farD rs F), .un, .un, .un] := fun h => by
            refine hA _ ?_
            simp
            exact fin _ (hasd _ ⟨fun e => (by cases e), fun h2 => absurd h2 h⟩)
          by_cases hlen : l.length = d + 1
          · have l0 : l ≠ [] := fun e => by subst e; cases hlen
            obtain ⟨a, ha⟩ : ∃ a, l.head? = some a := by
              cases l with
              | nil => exact absurd rfl l0
              | cons a l => exact ⟨a, rfl⟩
            obtain ⟨z, hz⟩ : ∃ z, l.getLast? = some z := ⟨_, List.getLast?_eq_some_getLast l0⟩
            have oa := good_str (ok.1 _ (hin a (List.mem_of_mem_head? ha))).ok
            have oz := good_str (ok.1 _ (hin z (List.mem_of_getLast? hz))).ok
            have os := good_str (ok.1 _ (nm_mem hs)).ok
            have ot := good_str (ok.1 _ (nm_mem ht)).ok
            have nlen : ((l.length : Int) == (d : Int) + 1) = true := by rw [beq_iff_eq]; omega
            simp [farD, lk, natD, kIx.kIxS, at_first ha, at_last hz, oa, oz, os, ot, hlen]
            by_cases ea : a = nm rs s
            · by_cases ez : z = nm rs t
              · rw [if_pos ea, if_pos ez]
                refine hB _ ?_
                simp only [wPass]
                refine hN _ ?_
                refine ret_i ?_
                simp only [wB, rsC, rE, rsN]
                have zl : (l.zip l.tail).length ≤ 1000 := by rw [List.length_zip]; omega
                refine lcM (l.zip l.tail) pairD (fun p => .bl (beB rs A p.1 p.2)) (fun P h => ?_) (thou zl) (fun p m P hP => ?_) ?_
                · have ep : paired (l.map D.str) (l.map D.str).tail = (l.zip l.tail).map pairD := by
                    rw [← List.map_tail]
                    exact paired_zip _ _
                  simp [cut_one, ep]
                  exact h
                · have m1 := hin _ (List.of_mem_zip m).1
                  have m2 := hin _ (List.mem_of_mem_tail (List.of_mem_zip m).2)
                  have nl := near_look (A := A) ok (ix_lt m1)
                  rw [nm_ix m1] at nl
                  have gl := good_lot ok (A (ix rs p.1))
                  have g2 := good_str (ok.1 _ m2).ok
                  have ea : (((pick rs (A (ix rs p.1))).map D.str).any fun z => beq z (.str p.2)) = beB rs A p.1 p.2 := by
                    rw [any_strs, Bool.eq_iff_iff, decide_eq_true_iff]
                    have := mem_pick (p := A (ix rs p.1)) ok.2.1 (ix_lt m2)
                    rw [nm_ix m2] at this
                    exact this
                  unfold lotD at nl gl
                  simp [-List.any_map, pairD, nearV, nl, gl, g2, ea]
                  simpa [nearV] using hP
                · simp [blsOf_m]
                  have := fin ((l.zip l.tail).all fun p => beB rs A p.1 p.2) (hasd _ ?_)
                  · simpa [Function.comp_def, farD] using this
                  · rw [← chain_zip]
                    constructor
                    · intro hc
                      exact ⟨l, f2, l0, hin, hc, by rw [ha, ea], by rw [hz, ez], hlen⟩
                    · intro h
                      obtain ⟨l', e, w⟩ := h
                      rw [f2] at e
                      cases e
                      exact w.2.2.1
              · rw [if_pos ea, if_neg ez]
                refine no fun h => ?_
                obtain ⟨l', e, w⟩ := h
                rw [f2] at e
                cases e
                have := w.2.2.2.2.1
                rw [hz] at this
                exact ez (Option.some.inj this)
            · rw [if_neg ea]
              refine no fun h => ?_
              obtain ⟨l', e, w⟩ := h
              rw [f2] at e
              cases e
              have := w.2.2.2.1
              rw [ha] at this
              exact ea (Option.some.inj this)
          · have nlen : ((l.length : Int) == (d : Int) + 1) = false := by rw [beq_eq_false_iff_ne]; omega
            simp [-kIx.kIxS, farD, lk, natD]
            rw [if_neg (by omega)]
            refine no fun h => ?_
            obtain ⟨l', e, w⟩ := h
            rw [f2] at e
            cases e
            exact hlen w.2.2.2.2.2
end K01

set_option Elab.async false
set_option linter.all false
set_option maxRecDepth 100000
set_option maxHeartbeats 2000000
namespace K01
open PySem L2 PySem.Spec PyProof.Rows Pu TL
/-! values that are bent -/
def spBent0 : DSp := fun ds Q _ => ∃ (p : D) (k : Nat) (v : D), ds = [p, v] ∧ PotOk k p ∧ k + 10 < 2 ^ 30 ∧ (v = .non ∨ ∃ x, v = .str x ∧ PyData.strOk x = true) ∧ ∀ r p', valOk r → itOk r → PotOk (k + 1) p' → Q (.fz r) [p', .non]
def spBent1 : DSp := fun ds Q _ => ∃ (p : D) (k : Nat) (v : D), ds = [p, v] ∧ PotOk k p ∧ k + 20 < 2 ^ 30 ∧ (v = .non ∨ ∃ l : List Str, v = .tup (l.map .str) ∧ l.length ≤ 100 ∧ ∀ x ∈ l, PyData.strOk x = true) ∧ ∀ r p', valOk r → PotOk (k + 3) p' → Q (.fz r) [p', .non]
theorem val_s {x : Str} : valOk (.str x) := ⟨rfl, fun xs e => by cases e⟩
theorem it_s {x : Str} (h : PyData.strOk x = true) : itOk (.str x) := ⟨rfl, fun y e => by cases e; exact h⟩
theorem it_of {d : D} (h : (tyN d).isSome = true) (n : isS d = false) : itOk d := ⟨h, fun y e => by subst e; cases n⟩
theorem val_t {xs : List D} (hl : xs.length ≤ 1000) (h : ∀ x ∈ xs, itOk x) : valOk (.tup xs) := ⟨rfl, fun ys e => by cases e; exact ⟨hl, h⟩⟩
theorem val_strs {l : List Str} (hl : l.length ≤ 1000) (h : ∀ x ∈ l, PyData.strOk x = true) : valOk (.tup (l.map .str)) := val_t (by simpa using hl) fun d m => by
  obtain ⟨x, mx, rfl⟩ := List.mem_map.mp m
  exact it_s (h x mx)
theorem val_l {xs : List D} : valOk (.lst xs) := ⟨rfl, fun xs e => by cases e⟩
theorem val_n : valOk .non := ⟨rfl, fun xs e => by cases e⟩
theorem strs_cut (l : List Str) (lo hi : Option Int) : ∃ l' : List Str, Pu.cutD (l.map D.str) lo hi = l'.map D.str ∧ l'.length ≤ l.length ∧ ∀ x ∈ l', x ∈ l := by
  unfold Pu.cutD
  rw [List.length_map, ← List.map_drop, ← List.map_take]
  exact ⟨_, rfl, by rw [List.length_take, List.length_drop]; omega, fun x m => List.mem_of_mem_drop (List.mem_of_mem_take m)⟩
def bentC : List D := [.non, .int 0, .str "a", .str "b", .str "c1", .str "room", .str "ring", .str "wood", .str "a", .str "a", .str "b", .str "room", .str ""]
theorem bentC_ok : ∀ x ∈ bentC, valOk x ∧ itOk x := by
  intro x m
  unfold bentC at m
  simp only [List.mem_cons, List.not_mem_nil, or_false] at m
  rcases m with rfl | rfl | rfl | rfl | rfl | rfl | rfl | rfl | rfl | rfl | rfl | rfl | rfl
  · exact ⟨val_n, it_of rfl rfl⟩
  · exact ⟨⟨rfl, fun xs e => by cases e⟩, it_of rfl rfl⟩
  all_goals exact ⟨val_s, it_s (by decide +kernel)⟩
def Flat (v : D) : Prop := v = .non ∨ ∃ x, v = .str x ∧ PyData.strOk x = true
theorem Flat.ok {v : D} (h : Flat v) : valOk v ∧ itOk v ∧ isT v = false := by
  rcases h with rfl | ⟨x, rfl, h⟩
  · exact ⟨val_n, it_of rfl rfl, rfl⟩
  · exact ⟨val_s, it_s h, rfl⟩
theorem bentE_ok {v : D} (h : Flat v) : ∀ x ∈ [D.lst [v], .dic [] [], .tup [v], .tup [.lst [v]]], valOk x ∧ itOk x := by
  intro x m
  simp only [List.mem_cons, List.not_mem_nil, or_false] at m
  rcases m with rfl | rfl | rfl | rfl
  · exact ⟨val_l, it_of rfl rfl⟩
  · exact ⟨⟨rfl, fun xs e => by cases e⟩, it_of rfl rfl⟩
  · exact ⟨val_t (by simp) fun d m => by rw [List.mem_singleton.mp m]; exact h.ok.2.1, it_of rfl rfl⟩
  · exact ⟨val_t (by simp) fun d m => by rw [List.mem_singleton.mp m]; exact it_of rfl rfl, it_of rfl rfl⟩
theorem kb_non_int : kitB "NoneType" "int" = some false := by decide +kernel
theorem kb_str_int : kitB "str" "int" = some false := by decide +kernel
theorem isint_no {k : Nat} {E : EX} {ρ : En} {R : Bool → En → Prop} {v : D} (hv : Flat v) (h : ρ[k]? = some (.fz v)) (q : R false ρ) : tV (wIsTy "int" (rN k)) E ρ R := by
  rcases hv with rfl | ⟨x, rfl, _⟩
  · simp [h, kb_non_int]
    exact q
  · simp [h, kb_str_int]
    exact q
theorem bent_base {S : Sps} {C : Nat} (h1 : S._law_of = spOf) {K : EndD} {p v : D} {k : Nat} (pk : PotOk k p) (hk : k + 10 < 2 ^ 30) (hv : Flat v) (hr : ∀ r p' c, valOk r → itOk r → PotOk (k + 1) p' → K.rt (.fz r) [.io 0 p', .fz v, .un, c]) : w__law_bent S C K [.io 0 p, .fz v, .un, .un] := by
  have nt := hv.ok.2.2
  unfold w__law_bent
  refine seq_i fun N hN => ifS_i fun A1 B1 hA hB => ?_
  simp only [Pu.tAnd]
  refine istup hv.ok.1 rfl ?_
  rw [nt]
  refine hB _ ?_
  simp only [wPass]
  refine hN _ ?_
  refine seq_i fun N hN => ifS_i fun A1 B1 hA hB => ?_
  refine istup hv.ok.1 rfl ?_
  rw [nt]
  refine hB _ ?_
  simp only [wPass]
  refine hN _ ?_
  refine seq_i fun N hN => ifS_i fun A1 B1 hA hB => ?_
  refine isint_no hv rfl ?_
  refine hB _ ?_
  simp only [wPass]
  refine hN _ ?_
  refine seq_i fun N hN => ?_
  have k1 : N [.io 0 p, .fz v, .un, .ow (.lst bentC)] := by
    refine hN _ ?_
    refine ret_i ?_
    have sz : bentC.length + 4 ≤ sizeLine := by decide
    simp [h1, sz]
    refine ⟨p, _, k, bentC ++ [D.lst [v], .dic [] [], .tup [v], .tup [.lst [v]]], rfl, rfl, pk, by omega, by simp, by simp [bentC], fun x mx p' pk' => ?_⟩
    have := (List.mem_append.mp mx).elim (bentC_ok x) (bentE_ok hv x)
    exact hr x p' _ this.1 this.2 pk'
  simpa [bentC] using k1
theorem kp_bent0 {S : Sps} {C : Nat} (h1 : S._law_of = spOf) : keeps [.io, .fz] 4 spBent0 (w__law_bent S C) := by
  refine keeps_i fun ds Q E hs hl K hn hr => ?_
  obtain ⟨p, k, v, rfl, pk, hk, hv, q⟩ := hs
  refine bent_base h1 pk hk hv fun r p' c v1 v2 pk' => ?_
  refine hr _ _ ?_
  simpa using q r p' v1 v2 pk'
theorem ineq0 {j : Nat} {E : EX} {ρ : En} {R : Bool → En → Prop} {xs : List D} (hj : ρ[j]? = some (.fz (.tup xs))) (hR : R (!xs.isEmpty) ρ) : tV (wOp kNeE (rN j) (rE (wTup vsN))) E ρ R := by
  simp [-List.isEmpty_map, hj]
  exact hR
theorem kp_bent1 {S : Sps} {C : Nat} (h1 : S._law_of = spOf) (h2 : S._law_take = spTake) (h3 : S._law_bent = spBent0) : keeps [.io, .fz] 4 spBent1 (w__law_bent S C) := by
  refine keeps_i fun ds Q E hs hl K hn hr => ?_
  obtain ⟨p, k, v, rfl, pk, hk, hv, q⟩ := hs
  rcases hv with rfl | ⟨l, rfl, hl, hok⟩
  · refine bent_base h1 pk (by omega) (.inl rfl) fun r p' c v1 v2 pk' => ?_
    refine hr _ _ ?_
    simpa using q r p' v1 (pk'.le (by omega))
  have fin : ∀ r p' c2, valOk r → PotOk (k + 3) p' → K.rt (.fz r) [.io 0 p', .fz (.tup (l.map .str)), c2, .un] := fun r p' c2 v1 pk' => by
    refine hr _ _ ?_
    simpa using q r p' v1 pk'
  have hv : valOk (.tup (l.map .str)) := val_strs (by omega) hok
  have th : 1000 ≤ sizeLine := by decide
  unfold w__law_bent
  refine seq_i fun N hN => ?_
  have second : ∀ p1, PotOk (k + 1) p1 → N [.io 0 p1, .fz (.tup (l.map .str)), .un, .un] := fun p1 pk1 => by
    refine hN _ ?_
    refine seq_i fun N hN => ifS_i fun A1 B1 hA hB => ?_
    refine istup hv rfl ?_
    refine hA _ ?_
    refine ret_i ?_
    obtain ⟨c1, e1, f1, g1⟩ := strs_cut l (some 1) none
    obtain ⟨c2, e2, f2, g2⟩ := strs_cut l (some (-1)) none
    simp [h1, e1, e2]
    refine ⟨by omega, by omega, p1, .lst [.lst (l.map .str), .tup (c1.map .str), .tup (l.map .str ++ c2.map .str), .tup (l.map .str).reverse, .tup [], .non, .tup (l.map .str ++ [.str "a"])], k + 1, _, ?_, rfl, pk1, by omega, by simp, by simp, fun x mx p' pk' => ?_⟩
    · simp
    · have ok1 : ∀ l' : List Str, (∀ x ∈ l', x ∈ l) → ∀ x ∈ l', PyData.strOk x = true := fun l' h x m => hok x (h x m)
      refine fin x p' _ ?_ (pk'.le (by omega))
      simp only [List.mem_cons, List.not_mem_nil, or_false] at mx
      rcases mx with rfl | rfl | rfl | rfl | rfl | rfl | rfl
      · exact val_l
      · exact val_strs (by omega) (ok1 _ g1)
      · rw [← List.map_append]
        refine val_strs (by rw [List.length_append]; omega) fun x m => (List.mem_append.mp m).elim (hok x) (ok1 _ g2 x)
      · rw [← List.map_reverse]
        exact val_strs (by rw [List.length_reverse]; omega) fun x m => hok x (List.mem_reverse.mp m)
      · exact val_t (by simp) (by simp)
      · exact val_n
      · rw [show l.map D.str ++ [D.str "a"] = (l ++ [("a" : Str)]).map .str by rw [List.map_append]; rfl]
        refine val_strs (by rw [List.length_append, List.length_singleton]; omega) fun x m => (List.mem_append.mp m).elim (hok x) fun m => by
          rw [List.mem_singleton.mp m]; decide +kernel
  refine ifS_i fun A1 B1 hA hB => ?_
  have b0 : ∀ p1, PotOk (k + 1) p1 → B1 [.io 0 p1, .fz (.tup (l.map .str)), .un, .un] := fun p1 pk1 => by
    refine hB _ ?_
    simp only [wPass]
    exact second p1 pk1
  simp only [Pu.tAnd]
  refine istup hv rfl ?_
  rw [if_pos (show isT (.tup (l.map .str)) = true from rfl)]
  refine ineq0 (xs := l.map .str) rfl ?_
  cases hem : (l.map D.str).isEmpty with
  | true => exact b0 p (pk.le (by omega))
  | false =>
    have l0 : 0 < l.length := by
      cases l with
      | nil => cases hem
      | cons a l => simp
    simp [h2]
    refine ⟨p, k, 5, rfl, pk, by omega, by decide, by decide, fun r p1 r0 r1 pk1 => ?_⟩
    simp
    by_cases hr0 : 0 < r
    · rw [if_pos hr0]
      refine hA _ ?_
      refine seq_i fun N2 hN2 => ?_
      simp [h2]
      refine ⟨p1, k + 1, l.length, rfl, pk1, by omega, by omega, by omega, fun a p2 a0 a1 pk2 => ?_⟩
      obtain ⟨a, rfl⟩ := Int.eq_ofNat_of_zero_le a0
      have ha : a < l.length := by omega
      simp
      refine hN2 _ ?_
      refine ret_i ?_
      obtain ⟨c1, e1, f1, g1⟩ := strs_cut l none (some (a : Int))
      obtain ⟨c2, e2, f2, g2⟩ := strs_cut l (some ((a : Int) + 1)) none
      have ea : atI (l.map D.str) (a : Int) = some (.str l[a]) := by
        rw [atN (by simpa using ha)]
        simp
      simp [h3, e1, e2, kIx.kIxS, ea]
      refine ⟨p2, k + 2, .str l[a], rfl, pk2, by omega, .inr ⟨_, rfl, hok _ (List.getElem_mem ha)⟩, fun r p3 v1 v2 pk3 => ?_⟩
      simp [e2]
      refine ⟨by omega, by omega, ?_⟩
      refine fin _ p3 _ ?_ pk3
      refine val_t (by simp; omega) fun d m => ?_
      simp only [List.mem_append, List.mem_cons, List.not_mem_nil, or_false, List.mem_map] at m
      rcases m with ⟨x, mx, rfl⟩ | rfl | ⟨x, mx, rfl⟩
      · exact it_s (hok x (g1 x mx))
      · exact v2
      · exact it_s (hok x (g2 x mx))
    · rw [if_neg hr0]
      exact b0 p1 pk1
end K01

set_option Elab.async false
set_option linter.all false
set_option maxRecDepth 100000
set_option maxHeartbeats 2000000
namespace K01
open PySem L2 PySem.Spec PyProof.Rows Pu TL
/-! how long what is told is -/
theorem ints_all {B : Nat} : ∀ {l : List D}, (∀ d ∈ l, d.py.intsShort B = true) → PyData.intsShortAll B (pys l) = true
  | [], _ => by simp [pys, PyData.intsShortAll]
  | d :: l, h => by
    have h1 := h d (List.mem_cons_self ..)
    have h2 := ints_all (B := B) (l := l) fun e m => h e (List.mem_cons_of_mem _ m)
    simp [pys, PyData.intsShortAll, h1, h2]
theorem show_all : ∀ {l : List D}, (∀ d ∈ l, d.py.showable = true) → PyData.showableAll (pys l) = true
  | [], _ => by simp [pys, PyData.showableAll]
  | d :: l, h => by
    have h1 := h d (List.mem_cons_self ..)
    have h2 := show_all (l := l) fun e m => h e (List.mem_cons_of_mem _ m)
    simp [pys, PyData.showableAll, h1, h2]
theorem weigh_all {c : Nat} : ∀ {l : List D}, (∀ d ∈ l, d.py.weight ≤ c) → PyData.weightAll (pys l) ≤ (c + 1) * l.length
  | [], _ => by simp [pys, PyData.weightAll]
  | d :: l, h => by
    have h1 := h d (List.mem_cons_self ..)
    have h2 := weigh_all (c := c) (l := l) fun e m => h e (List.mem_cons_of_mem _ m)
    simp only [pys, PyData.weightAll, List.length_cons, Nat.mul_succ]
    omega
theorem lot_facts {rs : List Str} (ok : RsOk rs) (p : Nat → Bool) : (lotD rs p).py.intsShort 8 = true ∧ (lotD rs p).py.showable = true ∧ (lotD rs p).py.weight ≤ 9 * 16 := by
  unfold lotD
  refine ⟨ints_all (l := (pick rs p).map D.str) fun d m => ?_, show_all (l := (pick rs p).map D.str) fun d m => ?_, ?_⟩
  · obtain ⟨x, _, rfl⟩ := List.mem_map.mp m
    rfl
  · obtain ⟨x, _, rfl⟩ := List.mem_map.mp m
    rfl
  · have h := weigh_all (c := 8) (l := (pick rs p).map D.str) fun d m => by
      obtain ⟨x, mx, rfl⟩ := List.mem_map.mp m
      exact (ok.1 x (pick_sub mx)).len
    have l := pick_len rs p
    have := ok.2.2.2
    rw [List.length_map] at h
    exact Nat.le_trans h (Nat.mul_le_mul_left _ (by omega))
def ReprOk (d : D) : Prop := d.plain = true ∧ d.py.showable = true ∧ d.py.shown.length ≤ sizeLine ∧ d.py.depth ≤ 64
theorem repr_by {d : D} (g : d.good = true) (i8 : d.py.intsShort 8 = true) (sh : d.py.showable = true) (w : d.py.weight ≤ 29000) : ReprOk d := by
  have pl := good_plain g
  refine ⟨pl, sh, ?_, ?_⟩
  · have h := PyData.shown_le 8 (by decide) _ (PyData.leavesShort_of_canLay0 8 _ (lay_of _ pl) i8)
    refine Nat.le_trans h ?_
    refine Nat.le_trans (Nat.add_le_add_right (Nat.mul_le_mul_left _ w) 8) (by decide)
  · unfold D.good at g
    rw [Bool.and_eq_true, decide_eq_true_iff] at g
    exact g.2
theorem repr_lot {rs : List Str} (ok : RsOk rs) (p : Nat → Bool) : ReprOk (lotD rs p) := by
  have f := lot_facts ok p
  exact repr_by (good_lot ok p) f.1 f.2.1 (by omega)
theorem repr_parts {rs : List Str} {A : Nat → Nat → Bool} {f : Nat → Bool} (ok : RsOk rs) : ReprOk (.tup (partsD rs A f)) := by
  have all : ∀ d ∈ partsD rs A f, d.good = true ∧ d.py.depth ≤ 1 ∧ d.py.intsShort 8 = true ∧ d.py.showable = true ∧ d.py.weight ≤ 9 * 16 := fun d md => by
    obtain ⟨k, _, rfl⟩ := List.mem_map.mp md
    refine ⟨good_lot ok _, ?_, lot_facts ok _⟩
    show PyData.depthAll (pys ((pick rs (conn rs.length A f k)).map D.str)) + 1 ≤ 1
    rw [depth_pys0 (strs_py _)]
    exact Nat.le_refl _
  refine repr_by (good_tup (n := 1) (fun d md => good_plain (all d md).1) fun d md => (all d md).2.1) ?_ ?_ ?_
  · exact ints_all fun d md => (all d md).2.2.1
  · exact show_all fun d md => (all d md).2.2.2.1
  · have h := weigh_all (c := 9 * 16) (l := partsD rs A f) fun d md => (all d md).2.2.2.2
    have l : (partsD rs A f).length ≤ 16 := by
      unfold partsD
      rw [List.length_map]
      exact Nat.le_trans reps_len ok.2.2.2
    refine Nat.le_trans h (Nat.le_trans (Nat.mul_le_mul_left _ l) (by decide))
theorem repr_bl (b : Bool) : ReprOk (.bl b) := by
  cases b <;> exact ⟨rfl, rfl, by decide +kernel, by decide⟩
/-! how far it is at most -/
theorem dst_list {n : Nat} {A : Nat → Nat → Bool} {s : Nat} : ∀ {d j : Nat}, Dst n A s j d → ∃ L : List Nat, L.length = d + 1 ∧ L.Nodup ∧ ∀ x ∈ L, x < n ∧ ∃ e, e ≤ d ∧ Dst n A s x e
  | 0, j, h => ⟨[j], rfl, by simp, fun x m => by rw [List.mem_singleton.mp m]; exact ⟨h.1.lt.2, 0, Nat.le_refl _, h⟩⟩
  | d + 1, j, h => by
    obtain ⟨i, hi⟩ : ∃ i, Dst n A s i d := by
      obtain ⟨h1, h2⟩ := h
      cases h1 with
      | @snoc _ _ i _ w a c => exact ⟨i, w, fun e w2 => by have := h2 _ (.snoc w2 a c); omega⟩
    obtain ⟨L, l1, l2, l3⟩ := dst_list hi
    refine ⟨L ++ [j], by rw [List.length_append, l1]; rfl, ?_, fun x m => ?_⟩
    · refine List.nodup_append.mpr ⟨l2, by simp, fun a ma b mb e => ?_⟩
      rw [List.mem_singleton.mp mb] at e
      subst e
      obtain ⟨_, e, le, dd⟩ := l3 _ ma
      have := dd.one h
      omega
    · rcases List.mem_append.mp m with m | m
      · obtain ⟨a, e, le, dd⟩ := l3 x m
        exact ⟨a, e, by omega, dd⟩
      · rw [List.mem_singleton.mp m]
        exact ⟨h.1.lt.2, d + 1, Nat.le_refl _, h⟩
theorem dst_lt {n : Nat} {A : Nat → Nat → Bool} {s d j : Nat} (h : Dst n A s j d) : d < n := by
  obtain ⟨L, l1, l2, l3⟩ := dst_list h
  have := few_sub l2 (m := List.range n) fun x m => List.mem_range.mpr (l3 x m).1
  rw [List.length_range] at this
  omega
section
variable {rs : List Str} {A : Nat → Nat → Bool} {s t : Nat}
theorem way_chain (ok : RsOk rs) {p : List Nat} {j : Nat} (w : Way rs.length A s j p) : chainB (beB rs A) (p.map (nm rs)) = true := by
  induction w with
  | one => rfl
  | @more j l p w a c ih =>
    have e : (p.map (nm rs)).getLast? = some (nm rs j) := by rw [List.getLast?_map, w.last]; rfl
    rw [List.map_append]
    show chainB (beB rs A) (p.map (nm rs) ++ [nm rs l]) = true
    rw [chain_snoc e, ih]
    unfold beB
    rw [ix_nm ok.2.1 (w.lt _ (List.mem_of_getLast? w.last)), ix_nm ok.2.1 c, a]
    rfl
theorem wayD_map (p : List Nat) : wayD rs p = .tup ((p.map (nm rs)).map .str) := by
  unfold wayD
  rw [List.map_map]
  rfl
theorem way_shows (ok : RsOk rs) {v : D} (h : WayV rs A s t v) {b : Bool} (sb : ShowsV rs A s t v b) : b = true := by
  refine sb.mpr ?_
  rcases h with ⟨rfl, no⟩ | ⟨p, d, rfl, w, pl, dd⟩
  · exact .inl ⟨no, rfl⟩
  · refine .inr ⟨d, p.map (nm rs), dd, by rw [wayD_map]; exact tupS_strs _, ?_, ?_, way_chain ok w, ?_, ?_, by rw [List.length_map, pl]⟩
    · intro e
      have := congrArg List.length e
      rw [List.length_map, pl] at this
      cases this
    · intro x m
      obtain ⟨i, mi, rfl⟩ := List.mem_map.mp m
      exact nm_mem (w.lt i mi)
    · rw [List.head?_map, w.head]; rfl
    · rw [List.getLast?_map, w.last]; rfl
theorem shows_one {v : D} {b c : Bool} (h1 : ShowsV rs A s t v b) (h2 : ShowsV rs A s t v c) : b = c := by
  rw [Bool.eq_iff_iff]
  exact h1.trans h2.symm
/-- what the way and the way back are -/
theorem ways_two (sy : Sym A) {v w : D} (h1 : WayV rs A s t v) (h2 : WayV rs A t s w) : (v = .non ∧ w = .non) ∨ ∃ p q : List Nat, v = wayD rs p ∧ w = wayD rs q ∧ p.length = q.length ∧ p.length ≤ rs.length ∧ (∀ i ∈ p, i < rs.length) ∧ ∀ i ∈ q, i < rs.length := by
  rcases h1 with ⟨rfl, no⟩ | ⟨p, d, rfl, wp, pl, dd⟩
  · rcases h2 with ⟨rfl, _⟩ | ⟨q, e, rfl, wq, ql, de⟩
    · exact .inl ⟨rfl, rfl⟩
    · exact absurd (de.1.symm sy) (no e)
  · rcases h2 with ⟨rfl, no⟩ | ⟨q, e, rfl, wq, ql, de⟩
    · exact absurd (dd.1.symm sy) (no d)
    · have := (dd.symm sy).one de
      have := dst_lt dd
      exact .inr ⟨p, q, rfl, rfl, by omega, by omega, wp.lt, wq.lt⟩
end
end K01

set_option Elab.async false
set_option linter.all false
set_option maxRecDepth 100000
set_option maxHeartbeats 4000000
namespace K01
open PySem L2 PySem.Spec PyProof.Rows Pu TL
structure SpOk (S : Sps) (C : Nat) : Prop where
  take : S._law_take = spTake
  of : S._law_of = spOf
  some : S._law_some = spSome
  draw : S._law_house = spDraw
  text : S._law_text = spText
  house : S.House = spHouse C
  near : S._law_near = spNear
  lot : S._law_lot = spLot
  parts : S.parts = spParts C
  lparts : S._law_parts = spLawParts
  joined : S.is_joined = spJoined C
  beside : S.beside = spBeside C
  bent : S._law_bent = spBent1
  is_lot : S.is_lot = spIsLotOf C
  way : S.way = spWay C
  is_way : S._law_is_way = spIsWay
  shows : S.shows_way = spShowsWay C
theorem lot_in {rs : List Str} {f : Nat → Bool} {i j k : Nat} {E : EX} {ρ : En} {R : Bool → En → Prop} (ok : RsOk rs) (hi : i < rs.length) (hj : ρ[j]? = some (.fz (nmD rs i))) (hk : ρ[k]? = some (.fz (lotD rs f))) (hR : R (f i) ρ) : tV (wOp kIn (rN j) (rN k)) E ρ R := free_in ok (.inl rfl) hi hj hk hR
theorem lot_nin {rs : List Str} {f : Nat → Bool} {i j k : Nat} {E : EX} {ρ : En} {R : Bool → En → Prop} (ok : RsOk rs) (hi : i < rs.length) (hj : ρ[j]? = some (.fz (nmD rs i))) (hk : ρ[k]? = some (.fz (lotD rs f))) (hR : R (!f i) ρ) : tV (wOp kNotIn (rN j) (rN k)) E ρ R := by
  have ea : (((pick rs f).map D.str).any fun z => beq z (.str (nm rs i))) = f i := by
    rw [any_strs, Bool.eq_iff_iff, decide_eq_true_iff]
    exact mem_pick ok.2.1 hi
  have gx := good_str (ok.1 _ (nm_mem hi)).ok
  have gt := good_lot ok f
  unfold nmD at hj
  unfold lotD at gt hk
  simp [-List.any_map, hj, hk, gx, gt, ea]
  exact hR
theorem lot_inE {rs : List Str} {f : Nat → Bool} {i j k : Nat} {E : EX} {ρ : En} {Q : Sl → En → Prop} (ok : RsOk rs) (hi : i < rs.length) (hj : ρ[j]? = some (.fz (nmD rs i))) (hk : ρ[k]? = some (.fz (lotD rs f))) (hQ : Q (.fz (.bl (f i))) ρ) : wOp kIn (rN j) (rN k) E ρ Q := by
  have ea : (((pick rs f).map D.str).any fun z => beq z (.str (nm rs i))) = f i := by
    rw [any_strs, Bool.eq_iff_iff, decide_eq_true_iff]
    exact mem_pick ok.2.1 hi
  have gx := good_str (ok.1 _ (nm_mem hi)).ok
  have gt := good_lot ok f
  unfold nmD at hj
  unfold lotD at gt hk
  simp [-List.any_map, hj, hk, gx, gt, ea]
  exact hQ
theorem lot_lst {rs : List Str} {p : Nat → Bool} : (pick rs p).map D.str = (nums rs.length p).map (nmD rs) := by
  rw [pick_eq, List.map_map]
  rfl
/-- both told alike -/
theorem repr_ne {wa wb : WE} {E : EX} {ρ ρ1 ρ2 : En} {R : Bool → En → Prop} {d : D} (hd : ReprOk d) (ha : ∀ Q : Sl → En → Prop, Q (.fz d) ρ1 → wa E ρ Q) (hb : ∀ Q : Sl → En → Prop, Q (.fz d) ρ2 → wb E ρ1 Q) (hR : R false ρ2) : tV (wOp kNe (rE (wB kRepr (rsC (rE wa) rsN))) (rE (wB kRepr (rsC (rE wb) rsN)))) E ρ R := by
  simp only [tV, wOp, wB, rsC, rE, rsN]
  refine ha _ ?_
  have h1 := hd.1
  have h2 := hd.2.1
  have h3 := hd.2.2.1
  have h4 := hd.2.2.2
  simp [h1, h2, h3, h4]
  refine hb _ ?_
  simp [h1, h2, h3, h4]
  exact hR
theorem repr_neN {wa : WE} {k : Nat} {E : EX} {ρ ρ1 : En} {R : Bool → En → Prop} {d : D} (hd : ReprOk d) (ha : ∀ Q : Sl → En → Prop, Q (.fz d) ρ1 → wa E ρ Q) (hb : ρ1[k]? = some (.fz d)) (hR : R false ρ1) : tV (wOp kNe (rE (wB kRepr (rsC (rE wa) rsN))) (rE (wB kRepr (rsC (rN k) rsN)))) E ρ R := by
  simp only [tV, wOp, wB, rsC, rE, rsN]
  refine ha _ ?_
  have h1 := hd.1
  have h2 := hd.2.1
  have h3 := hd.2.2.1
  have h4 := hd.2.2.2
  simp [h1, h2, h3, h4, hb]
  exact hR
theorem bs_any {α : Type} {k : Nat} {te : WE} {E : EX} {ρ : En} {R : Bool → En → Prop} (its : List α) (it : α → D) (f : α → Bool) (wi : WI) (hi : ∀ P : List D → En → Prop, P (its.map it) ρ → wi E ρ P) (hk : ρ[k]? = some .un) (hl : its.length ≤ 1000)
    (hx : ∀ x ∈ its, ∀ Q : Sl → En → Prop, Q (.fz (.bl (f x))) (ρ.set k (.fz (it x))) → te noEX (ρ.set k (.fz (it x))) Q) (hR : R (its.any f) ρ) : tV (wB kAny (rsC (rE (wLc wi (gN k) tYes te [k])) rsN)) E ρ R := by
  have e := set_un hk
  simp only [tV, wB, rsC, rE, rsN]
  refine lcM its it (fun d => .bl (f d)) hi (thou hl) (fun x m P h => ?_) ?_
  · simp only [wipeE, gN, e]
    refine hx x m _ ?_
    simp only [Sl.fr, wipeE, List.set_set, e] at h ⊢
    exact h
  · simp [blsOf_m, e, hk]
    simpa [Function.comp_def] using hR
theorem for_i {wi : WI} {g : WG} {body : WS} {K : EndD} {ρ : En} (h : ∀ W : List D → En → Prop, (∀ its ρ1, wFor (fun _ _ P => P its ρ1) g body K ρ1 → W its ρ1) → wi K.ex ρ W) : wFor wi g body K ρ := wFor_eq (h _ fun _ _ h => h)
theorem istupE {k : Nat} {E : EX} {ρ : En} {Q : Sl → En → Prop} {x : D} (hx : valOk x) (h : ρ[k]? = some (.fz x)) (q : Q (.fz (.bl (isT x))) ρ) : wIsTy "tuple" (rN k) E ρ Q := by
  obtain ⟨n, s1, s2⟩ := ty_tup hx.1
  simp [-tyN, h, s1, s2]
  exact q
theorem bs_allE {α : Type} {k : Nat} {te : WE} {E : EX} {ρ : En} {R : Sl → En → Prop} (its : List α) (it : α → D) (f : α → Bool) (wi : WI) (hi : ∀ P : List D → En → Prop, P (its.map it) ρ → wi E ρ P) (hk : ρ[k]? = some .un) (hl : its.length ≤ 1000)
    (hx : ∀ x ∈ its, ∀ Q : Sl → En → Prop, Q (.fz (.bl (f x))) (ρ.set k (.fz (it x))) → te noEX (ρ.set k (.fz (it x))) Q) (hR : R (.fz (.bl (its.all f))) ρ) : wB kAll (rsC (rE (wLc wi (gN k) tYes te [k])) rsN) E ρ R := by
  have e := set_un hk
  simp only [wB, rsC, rE, rsN]
  refine lcM its it (fun d => .bl (f d)) hi (thou hl) (fun x m P h => ?_) ?_
  · simp only [wipeE, gN, e]
    refine hx x m _ ?_
    simp only [Sl.fr, wipeE, List.set_set, e] at h ⊢
    exact h
  · simp [blsOf_m, e, hk]
    simpa [Function.comp_def] using hR
/-- a tuple of texts: as a value -/
theorem look_valE {j k : Nat} {E : EX} {ρ : En} {R : Sl → En → Prop} {v : D} (hv : valOk v) (hj : ρ[j]? = some (.fz v)) (hk : ρ[k]? = some .un) (hR : R (.fz (.bl (tupS v).isSome)) ρ) :
    wAnd (wIsTy "tuple" (rN j)) (wB kAll (rsC (rE (wLc (iSq (wN j)) (gN k) Pu.tYes (wIsTy "str" (rN k)) [k])) rsN)) E ρ R := by
  simp only [wAnd]
  refine istupE hv hj ?_
  have hks : ∀ x : D, (ρ.set k (.fz x))[k]? = some (.fz x) := fun x => by rw [List.getElem?_set_self (List.getElem?_eq_some_iff.mp hk).1]
  rcases val_cases hv with ⟨f1, f2⟩ | ⟨xs, rfl, f1, f2, f3, f4⟩ | ⟨l, rfl, f2, f3, f4⟩
  · rw [f1]
    rw [f2] at hR
    exact hR
  · refine bs_allE xs id isS _ (fun P h => by simpa [hj] using h) hk f3 (fun x m Q q => isstr (f4 x m) (hks x) q) ?_
    rw [f1]
    rw [f2] at hR
    exact hR
  · refine bs_allE (l.map D.str) id isS _ (fun P h => by simpa [hj] using h) hk (by simpa using f3) (fun x m Q q => isstr ?_ (hks x) q) ?_
    · obtain ⟨y, my, rfl⟩ := List.mem_map.mp m
      exact it_s (f4 y my)
    · rw [allS_strs]
      rw [f2] at hR
      exact hR
/-! the second half: ways -/
def wB2 (S : Sps) : WS := (wSeq (wPar [11, 12] (hsC (wCall S._law_of (asApp (asS 0 (asV (wN 1) asN)) asN)) (hsC (wCall S._law_of (asApp (asS 0 (asV (wN 1) asN)) asN)) hsN)))
  (wSeq (wPar [13, 14] (hsC (wCall S.way (asApp asN (asV (wN 3) (asV (wN 11) (asV (wN 12) asN))))) (hsC (wCall S.way (asApp (asV (wN 3) (asV (wN 12) (asV (wN 11) asN))) asN)) hsN)))
  (wSeq (wIfS (tOr (tNot (tV (wCall S._law_is_way (asApp (asV (wN 4) (asV (wN 11) (asV (wN 12) (asV (wN 13) asN)))) asN)))) (tV (wOp kNe (rE (wOp kIs (rN 13) (rE (wC .non)))) (rE (wOp kIs (rN 14) (rE (wC .non))))))) (wRet (wC (.bl false))) wPass)
  (wSeq (wIfS (tAnd (tV (wOp kIsNot (rN 13) (rE (wC .non)))) (tV (wOp kNe (rE (wB kLen (rsC (rN 14) rsN))) (rE (wB kLen (rsC (rN 13) rsN)))))) (wRet (wC (.bl false))) wPass)
  (wSeq (wSet 15 (wLst (vsC (wN 13) (vsC (wN 14) (vsC (wC .non) (vsC (wTup vsN) (vsC (wTup (vsC (wN 11) (vsC (wN 12) vsN))) (vsC (wTup (vsC (wN 11) vsN)) (vsC (wIf (tV (wOp kIsNot (rN 13) (rE (wC .non)))) (wB kList (rsC (rN 13) rsN)) (wLst (vsC (wN 11) vsN))) vsN)))))))))
  (wSeq (wFor (iRng1 (rE (wC (.int 6)))) (gN 16) (wDrop (wMut "list" kAppend 15 (vsC (wB kTuple (rsC (rE (wOp kAdd (rE (wOp kAdd (rE (wLst (vsC (wN 11) vsN))) (rE (wCall S._law_some (asApp (asS 0 (asV (wN 1) (asV (wCall S._law_take (asApp (asS 0 (asV (wB kLen (rsC (rN 1) rsN)) asN)) asN)) asN))) asN))))) (rE (wLst (vsC (wN 12) vsN))))) rsN)) vsN))))
  (wFor (iSq (wOp kAdd (rN 15) (rE (wLc (iRng1 (rE (wC (.int 4)))) (gN 16) tYes (wCall S._law_bent (asApp (asS 0 (asV (wN 13) asN)) asN)) [16])))) (gN 9) (wSeq (wSet 8 (wCall S._law_is_way (asApp (asV (wN 4) (asV (wN 11) (asV (wN 12) (asV (wN 9) asN)))) asN)))
  (wIfS (tV (wOp kNe (rE (wB kRepr (rsC (rE (wCall S.shows_way (asApp asN (asV (wN 3) (asV (wN 11) (asV (wN 12) (asV (wN 9) asN))))))) rsN))) (rE (wB kRepr (rsC (rN 8) rsN))))) (wRet (wC (.bl false))) wPass)))))))))
theorem val_in {rs : List Str} (ok : RsOk rs) {l : List Str} (hl : l.length ≤ 1000) (h : ∀ x ∈ l, x ∈ rs) : valOk (.tup (l.map .str)) := val_strs hl fun x m => (ok.1 x (h x m)).ok
theorem val_way {rs : List Str} (ok : RsOk rs) {p : List Nat} (hl : p.length ≤ 1000) (h : ∀ i ∈ p, i < rs.length) : valOk (wayD rs p) := by
  rw [wayD_map]
  exact val_in ok (by rw [List.length_map]; exact hl) fun x m => by
    obtain ⟨i, mi, rfl⟩ := List.mem_map.mp m
    exact nm_mem (h i mi)
theorem call_some {S : Sps} {C : Nat} (H : SpOk S C) {rs : List Str} {A : Nat → Nat → Bool} {hv d : D} {k s t : Nat} {a5 a6 a7 a8 a9 a10 c15 c16 : Sl} {told back p : D} {E : EX} {R : Sl → En → Prop} (ok : RsOk rs) (hk : k + 300 < 2 ^ 30) (pk : PotOk k p)
    (hR : ∀ (o : List Str) (p3 : D), (∀ x ∈ o, x ∈ rs) → o.length ≤ 16 → PotOk (k + 20) p3 → R (.ow (.lst (o.map .str))) [.io 0 p3, .fz (.tup (rs.map .str)), .fz d, .fz hv, .fz (nearV rs A), a5, a6, a7, a8, a9, a10, .fz (.str (nm rs s)), .fz (.str (nm rs t)), .fz told, .fz back, c15, c16, .un]) : (wCall S._law_some (asApp (asS 0 (asV (wN 1) (asV (wCall S._law_take (asApp (asS 0 (asV (wB kLen (rsC (rN 1) rsN)) asN)) asN)) asN))) asN)) E [.io 0 p, .fz (.tup (rs.map .str)), .fz d, .fz hv, .fz (nearV rs A), a5, a6, a7, a8, a9, a10, .fz (.str (nm rs s)), .fz (.str (nm rs t)), .fz told, .fz back, c15, c16, .un] R := by
  have n1 := ok.2.2.1
  have n16 := ok.2.2.2
  simp [H.some, H.take]
  refine ⟨p, _, rs.length, rfl, pk, by omega, by omega, by omega, fun x p4 x0 x1 pk4 => ?_⟩
  obtain ⟨x, rfl⟩ := Int.eq_ofNat_of_zero_le x0
  simp
  refine ⟨p4, .tup (rs.map .str), _, rs.map .str, x, rfl, rfl, pk4, by omega, by rw [List.length_map]; omega, by rw [List.length_map]; omega, fun out rest p5 pm ho pk5 => ?_⟩
  obtain ⟨o, r, rfl, rfl, pm2⟩ := perm_strs pm
  rw [List.length_map] at ho
  simp
  exact hR o p5 (fun x m => pm2.mem_iff.mp (List.mem_append_left _ m)) (by omega) (pk5.le (by omega))
theorem op2 {k : K2} {wa wb : WE} {E : EX} {ρ : En} {Q : Sl → En → Prop} (h : wa E ρ fun s ρ1 => s.fr fun x => wb E ρ1 fun s2 ρ2 => s2.fr fun y => k x y fun s => Q s ρ2) : wOp k (rE wa) (rE wb) E ρ Q := h
theorem lst1 {i : Nat} {d : D} {E : EX} {ρ : En} {Q : Sl → En → Prop} (h0 : ρ[i]? = some (.fz d)) (h : Q (.ow (.lst [d])) ρ) : wLst (vsC (wN i) vsN) E ρ Q := by
  simp [h0]
  exact h
theorem tup_i {w : WE} {E : EX} {ρ : En} {Q : Sl → En → Prop} (h : w E ρ fun s ρ1 => s.fr fun d => withO (seqD d) fun xs => Q (.fz (.tup xs)) ρ1) : wB kTuple (rsC (rE w) rsN) E ρ Q := h
theorem app_i {i : Nat} {w : WE} {K : EndD} {ρ : En} {xs : List D} (h0 : ρ[i]? = some (.ow (.lst xs))) (h : w K.ex ρ fun s ρ1 => s.fr fun d => with1 (lent ρ1[i]?) fun l => kAppend l [d] fun e d' => K.nx (ρ1.set i (lentBack ρ1[i]? d'))) : wDrop (wMut "list" kAppend i (vsC w vsN)) K ρ := by
  show with1 (lent ρ[i]?) _
  rw [h0]
  exact ⟨by simp, h⟩
theorem six_step {S : Sps} {C : Nat} (H : SpOk S C) {rs : List Str} {A : Nat → Nat → Bool} {hv d : D} {k s t : Nat} {a5 a6 a7 a8 a9 a10 c16 : Sl} {told back p : D} {vs : List D} {K : EndD} (ok : RsOk rs) (hk : k + 300 < 2 ^ 30) (pk : PotOk k p) (vl : vs.length ≤ 20)
    (hR : ∀ (o : List Str) (p3 : D), (∀ x ∈ o, x ∈ rs) → o.length ≤ 16 → PotOk (k + 20) p3 → K.nx [.io 0 p3, .fz (.tup (rs.map .str)), .fz d, .fz hv, .fz (nearV rs A), a5, a6, a7, a8, a9, a10, .fz (.str (nm rs s)), .fz (.str (nm rs t)), .fz told, .fz back, .ow (.lst (vs ++ [.tup ((nm rs s :: (o ++ [nm rs t])).map .str)])), c16, .un]) : (wDrop (wMut "list" kAppend 15 (vsC (wB kTuple (rsC (rE (wOp kAdd (rE (wOp kAdd (rE (wLst (vsC (wN 11) vsN))) (rE (wCall S._law_some (asApp (asS 0 (asV (wN 1) (asV (wCall S._law_take (asApp (asS 0 (asV (wB kLen (rsC (rN 1) rsN)) asN)) asN)) asN))) asN))))) (rE (wLst (vsC (wN 12) vsN))))) rsN)) vsN))) K [.io 0 p, .fz (.tup (rs.map .str)), .fz d, .fz hv, .fz (nearV rs A), a5, a6, a7, a8, a9, a10, .fz (.str (nm rs s)), .fz (.str (nm rs t)), .fz told, .fz back, .ow (.lst vs), c16, .un] := by
  have th : 1000 ≤ sizeLine := by decide
  refine app_i (xs := vs) rfl ?_
  refine tup_i ?_
  refine op2 ?_
  refine op2 ?_
  refine lst1 rfl ?_
  simp only [Sl.fr]
  refine call_some H ok hk pk fun o p3 ho hol pk3 => ?_
  have := hR o p3 ho hol pk3
  revert this
  generalize K.nx = N
  intro this
  simp only [Sl.fr, kAdd]
  refine ⟨by simp; omega, ?_⟩
  refine lst1 rfl ?_
  simp only [Sl.fr, kAdd, seqD, withO, lent, with1, kAppend, List.getElem?_cons_succ, List.getElem?_cons_zero]
  refine ⟨by simp; omega, by omega, ?_⟩
  have e : [D.str (nm rs s)] ++ o.map D.str ++ [D.str (nm rs t)] = (nm rs s :: (o ++ [nm rs t])).map .str := by simp
  rw [e]
  exact this
theorem six_loop {S : Sps} {C : Nat} (H : SpOk S C) {rs : List Str} {A : Nat → Nat → Bool} {hv d : D} {k s t : Nat} {a5 a6 a7 a8 a9 a10 c16 : Sl} {told back p : D} {vs : List D} {K : EndD} (ok : RsOk rs) (hk : k + 600 < 2 ^ 30) (hs : s < rs.length) (ht : t < rs.length) (pk : PotOk k p) (vl : vs.length = 7) (v0 : ∀ x ∈ vs, valOk x)
    (hR : ∀ (vs : List D) (p3 : D) (c16 : Sl), vs.length = 13 → (∀ x ∈ vs, valOk x) → PotOk (k + 120) p3 → K.nx [.io 0 p3, .fz (.tup (rs.map .str)), .fz d, .fz hv, .fz (nearV rs A), a5, a6, a7, a8, a9, a10, .fz (.str (nm rs s)), .fz (.str (nm rs t)), .fz told, .fz back, .ow (.lst vs), c16, .un]) : (wFor (iRng1 (rE (wC (.int 6)))) (gN 16) (wDrop (wMut "list" kAppend 15 (vsC (wB kTuple (rsC (rE (wOp kAdd (rE (wOp kAdd (rE (wLst (vsC (wN 11) vsN))) (rE (wCall S._law_some (asApp (asS 0 (asV (wN 1) (asV (wCall S._law_take (asApp (asS 0 (asV (wB kLen (rsC (rN 1) rsN)) asN)) asN)) asN))) asN))))) (rE (wLst (vsC (wN 12) vsN))))) rsN)) vsN)))) K [.io 0 p, .fz (.tup (rs.map .str)), .fz d, .fz hv, .fz (nearV rs A), a5, a6, a7, a8, a9, a10, .fz (.str (nm rs s)), .fz (.str (nm rs t)), .fz told, .fz back, .ow (.lst vs), c16, .un] := by
  refine forW' _ (List.range 6) intD (fun P h => by simp; exact h) (fun i ρ => ∃ (p' : D) (vs : List D) (a16 : Sl), ρ = [.io 0 p', .fz (.tup (rs.map .str)), .fz d, .fz hv, .fz (nearV rs A), a5, a6, a7, a8, a9, a10, .fz (.str (nm rs s)), .fz (.str (nm rs t)), .fz told, .fz back, .ow (.lst vs), a16, .un] ∧ PotOk (k + 20 * i) p' ∧ vs.length = 7 + i ∧ ∀ x ∈ vs, valOk x) ⟨p, vs, c16, rfl, pk, vl, v0⟩ (fun i hi ρ N' hW hN' => ?_) (fun ρ hW => ?_)
  · obtain ⟨p', vs, a16, rfl, pk', vl, v0⟩ := hW
    have hi : i < 6 := by simpa using hi
    rw [List.getElem_range]
    simp only [gN, List.set_cons_succ, List.set_cons_zero]
    refine six_step H ok (by omega) pk' (by omega) fun o p3 ho hol pk3 => ?_
    refine hN' _ ⟨p3, vs ++ [.tup ((nm rs s :: (o ++ [nm rs t])).map .str)], .fz (intD i), rfl, pk3, by rw [List.length_append, vl]; rfl, fun x mx => ?_⟩
    rcases List.mem_append.mp mx with mx | mx
    · exact v0 x mx
    · rw [List.mem_singleton.mp mx]
      refine val_in ok (by simp only [List.length_cons, List.length_append, List.length_nil]; omega) fun y my => ?_
      rcases List.mem_cons.mp my with rfl | my
      · exact nm_mem hs
      · rcases List.mem_append.mp my with my | my
        · exact ho y my
        · rw [List.mem_singleton.mp my]
          exact nm_mem ht
  · obtain ⟨p', vs, a16, rfl, pk', vl, v0⟩ := hW
    rw [List.length_range] at pk' vl
    exact hR vs p' a16 vl v0 pk'
theorem last_step {S : Sps} {C : Nat} (H : SpOk S C) {rs : List Str} {A : Nat → Nat → Bool} {hv d : D} {s t : Nat} {a5 a6 a7 a8 a10 c15 c16 : Sl} {told back p : D} {K : EndD} (ok : RsOk rs) (hh : Hou C rs A hv) (hs : s < rs.length) (ht : t < rs.length) {v : D} (hv1 : valOk v) (hR : ∀ b, K.nx [.io 0 p, .fz (.tup (rs.map .str)), .fz d, .fz hv, .fz (nearV rs A), a5, a6, a7, .fz (.bl b), .fz v, a10, .fz (.str (nm rs s)), .fz (.str (nm rs t)), .fz told, .fz back, c15, c16, .un]) : (wSeq (wSet 8 (wCall S._law_is_way (asApp (asV (wN 4) (asV (wN 11) (asV (wN 12) (asV (wN 9) asN)))) asN)))
  (wIfS (tV (wOp kNe (rE (wB kRepr (rsC (rE (wCall S.shows_way (asApp asN (asV (wN 3) (asV (wN 11) (asV (wN 12) (asV (wN 9) asN))))))) rsN))) (rE (wB kRepr (rsC (rN 8) rsN))))) (wRet (wC (.bl false))) wPass)) K [.io 0 p, .fz (.tup (rs.map .str)), .fz d, .fz hv, .fz (nearV rs A), a5, a6, a7, a8, .fz v, a10, .fz (.str (nm rs s)), .fz (.str (nm rs t)), .fz told, .fz back, c15, c16, .un] := by
  refine seq_i fun N6 hN6 => ?_
  have k6 : ∀ b, ShowsV rs A s t v b → N6 [.io 0 p, .fz (.tup (rs.map .str)), .fz d, .fz hv, .fz (nearV rs A), a5, a6, a7, .fz (.bl b), .fz v, a10, .fz (.str (nm rs s)), .fz (.str (nm rs t)), .fz told, .fz back, c15, c16, .un] := fun b sb => by
    refine hN6 _ ?_
    refine ifS_i fun A5 B5 hA5 hB5 => ?_
    refine repr_neN (repr_bl b) (ρ1 := [.io 0 p, .fz (.tup (rs.map .str)), .fz d, .fz hv, .fz (nearV rs A), a5, a6, a7, .fz (.bl b), .fz v, a10, .fz (.str (nm rs s)), .fz (.str (nm rs t)), .fz told, .fz back, c15, c16, .un]) (fun Q q => ?_) rfl ?_
    · simp [H.shows]
      refine ⟨rs, A, hv, s, t, v, rfl, hh, ok, hs, ht, hv1, fun c sc => ?_⟩
      rw [shows_one sc sb]
      exact q
    rw [if_neg (by simp)]
    refine hB5 _ ?_
    simp only [wPass]
    exact hR b
  refine set_i ?_
  simp [H.is_way]
  refine ⟨rs, A, s, t, v, rfl, ok, hs, ht, hv1, fun b sb => ?_⟩
  simp
  exact k6 b sb
theorem last_loop {S : Sps} {C : Nat} (H : SpOk S C) {rs : List Str} {A : Nat → Nat → Bool} {hv d : D} {k s t : Nat} {a5 a6 a7 a8 a9 a10 c16 : Sl} {told back p : D} {K : EndD} (ok : RsOk rs) (hh : Hou C rs A hv) (hs : s < rs.length) (ht : t < rs.length) {vs : List D} (hk : k + 600 < 2 ^ 30) (pk : PotOk k p) (vl : vs.length = 13) (v0 : ∀ x ∈ vs, valOk x) (vb : told = .non ∨ ∃ l : List Str, told = .tup (l.map .str) ∧ l.length ≤ 100 ∧ ∀ x ∈ l, PyData.strOk x = true)
    (hR : ∀ (p3 : D) (b8 b9 c15 c16 : Sl), PotOk (k + 20) p3 → K.nx [.io 0 p3, .fz (.tup (rs.map .str)), .fz d, .fz hv, .fz (nearV rs A), a5, a6, a7, b8, b9, a10, .fz (.str (nm rs s)), .fz (.str (nm rs t)), .fz told, .fz back, c15, c16, .un]) : (wFor (iSq (wOp kAdd (rN 15) (rE (wLc (iRng1 (rE (wC (.int 4)))) (gN 16) tYes (wCall S._law_bent (asApp (asS 0 (asV (wN 13) asN)) asN)) [16])))) (gN 9) (wSeq (wSet 8 (wCall S._law_is_way (asApp (asV (wN 4) (asV (wN 11) (asV (wN 12) (asV (wN 9) asN)))) asN)))
  (wIfS (tV (wOp kNe (rE (wB kRepr (rsC (rE (wCall S.shows_way (asApp asN (asV (wN 3) (asV (wN 11) (asV (wN 12) (asV (wN 9) asN))))))) rsN))) (rE (wB kRepr (rsC (rN 8) rsN))))) (wRet (wC (.bl false))) wPass))) K [.io 0 p, .fz (.tup (rs.map .str)), .fz d, .fz hv, .fz (nearV rs A), a5, a6, a7, a8, a9, a10, .fz (.str (nm rs s)), .fz (.str (nm rs t)), .fz told, .fz back, .ow (.lst vs), c16, .un] := by
  have th : 1000 ≤ sizeLine := by decide
  refine for_i fun W hW => ?_
  have kW : ∀ (vs : List D) (p3 : D) (c15 c16 : Sl), (∀ x ∈ vs, valOk x) → PotOk (k + 20) p3 → W vs [.io 0 p3, .fz (.tup (rs.map .str)), .fz d, .fz hv, .fz (nearV rs A), a5, a6, a7, a8, a9, a10, .fz (.str (nm rs s)), .fz (.str (nm rs t)), .fz told, .fz back, c15, c16, .un] := fun vs p3 c15 c16 vv pk3 => by
    refine hW _ _ ?_
    refine forW' _ vs id (fun P h => by rw [List.map_id] at h; exact h) (fun _ ρ => ∃ a8 a9, ρ = [.io 0 p3, .fz (.tup (rs.map .str)), .fz d, .fz hv, .fz (nearV rs A), a5, a6, a7, a8, a9, a10, .fz (.str (nm rs s)), .fz (.str (nm rs t)), .fz told, .fz back, c15, c16, .un]) ⟨_, _, rfl⟩ (fun t' ht' ρ N5 hW hN5 => ?_) (fun ρ hW => ?_)
    · obtain ⟨a8, a9, rfl⟩ := hW
      simp only [gN, List.set_cons_succ, List.set_cons_zero, id]
      exact last_step H ok hh hs ht (vv _ (List.getElem_mem ht')) fun b => hN5 _ ⟨_, _, rfl⟩
    · obtain ⟨a8, a9, rfl⟩ := hW
      exact hR _ _ _ _ _ pk3
  simp only [iSq, wOp, rN, rE, List.getElem?_cons_succ, List.getElem?_cons_zero]
  refine lcW' [.io 0 p, .fz (.tup (rs.map .str)), .fz d, .fz hv, .fz (nearV rs A), a5, a6, a7, a8, a9, a10, .fz (.str (nm rs s)), .fz (.str (nm rs t)), .fz told, .fz back, .ow (.lst vs), c16, .un] (List.range 4) intD (fun P h => by simp; exact h) (fun j acc ρ => ∃ p' : D, ρ = [.io 0 p', .fz (.tup (rs.map .str)), .fz d, .fz hv, .fz (nearV rs A), a5, a6, a7, a8, a9, a10, .fz (.str (nm rs s)), .fz (.str (nm rs t)), .fz told, .fz back, .ow (.lst vs), .un, .un] ∧ PotOk (k + 3 * j) p' ∧ acc.length = j ∧ ∀ x ∈ acc, valOk x) ⟨p, rfl, pk, rfl, by simp⟩ (fun j hj acc ρ P hW hP => ?_) (fun acc ρ hW => ?_)
  · obtain ⟨p', rfl, pk', al, av⟩ := hW
    have hj : j < 4 := by simpa using hj
    rw [List.getElem_range]
    simp [H.bent]
    refine ⟨p', _, told, rfl, pk', by omega, vb, fun r p4 vr pk4 => ?_⟩
    simp
    refine hP _ _ (by omega) ⟨p4, by simp, pk4, by rw [List.length_append, al]; rfl, fun x mx => ?_⟩
    rcases List.mem_append.mp mx with mx | mx
    · exact av x mx
    · rw [List.mem_singleton.mp mx]
      exact vr
  · obtain ⟨p', rfl, pk', al, av⟩ := hW
    rw [List.length_range] at pk' al
    simp
    refine ⟨by omega, ?_⟩
    exact kW (vs ++ acc) p' _ _ (fun x mx => (List.mem_append.mp mx).elim (v0 x) (av x)) (pk'.le (by omega))
theorem tail3 {S : Sps} {C : Nat} (H : SpOk S C) {rs : List Str} {A : Nat → Nat → Bool} {hv d : D} {k s t : Nat} {a5 a6 a7 a8 a9 a10 a15 c16 : Sl} {told back p : D} {K : EndD} (ok : RsOk rs) (hh : Hou C rs A hv) (hs : s < rs.length) (ht : t < rs.length) (hk : k + 800 < 2 ^ 30) (pk : PotOk k p) (vt : valOk told) (vback : valOk back) (vb : told = .non ∨ ∃ l : List Str, told = .tup (l.map .str) ∧ l.length ≤ 100 ∧ ∀ x ∈ l, PyData.strOk x = true)
    (hR : ∀ (p3 : D) (b8 b9 c15 c16 : Sl), PotOk (k + 140) p3 → K.nx [.io 0 p3, .fz (.tup (rs.map .str)), .fz d, .fz hv, .fz (nearV rs A), a5, a6, a7, b8, b9, a10, .fz (.str (nm rs s)), .fz (.str (nm rs t)), .fz told, .fz back, c15, c16, .un]) : (wSeq (wSet 15 (wLst (vsC (wN 13) (vsC (wN 14) (vsC (wC .non) (vsC (wTup vsN) (vsC (wTup (vsC (wN 11) (vsC (wN 12) vsN))) (vsC (wTup (vsC (wN 11) vsN)) (vsC (wIf (tV (wOp kIsNot (rN 13) (rE (wC .non)))) (wB kList (rsC (rN 13) rsN)) (wLst (vsC (wN 11) vsN))) vsN)))))))))
  (wSeq (wFor (iRng1 (rE (wC (.int 6)))) (gN 16) (wDrop (wMut "list" kAppend 15 (vsC (wB kTuple (rsC (rE (wOp kAdd (rE (wOp kAdd (rE (wLst (vsC (wN 11) vsN))) (rE (wCall S._law_some (asApp (asS 0 (asV (wN 1) (asV (wCall S._law_take (asApp (asS 0 (asV (wB kLen (rsC (rN 1) rsN)) asN)) asN)) asN))) asN))))) (rE (wLst (vsC (wN 12) vsN))))) rsN)) vsN))))
  (wFor (iSq (wOp kAdd (rN 15) (rE (wLc (iRng1 (rE (wC (.int 4)))) (gN 16) tYes (wCall S._law_bent (asApp (asS 0 (asV (wN 13) asN)) asN)) [16])))) (gN 9) (wSeq (wSet 8 (wCall S._law_is_way (asApp (asV (wN 4) (asV (wN 11) (asV (wN 12) (asV (wN 9) asN)))) asN)))
  (wIfS (tV (wOp kNe (rE (wB kRepr (rsC (rE (wCall S.shows_way (asApp asN (asV (wN 3) (asV (wN 11) (asV (wN 12) (asV (wN 9) asN))))))) rsN))) (rE (wB kRepr (rsC (rN 8) rsN))))) (wRet (wC (.bl false))) wPass))))) K [.io 0 p, .fz (.tup (rs.map .str)), .fz d, .fz hv, .fz (nearV rs A), a5, a6, a7, a8, a9, a10, .fz (.str (nm rs s)), .fz (.str (nm rs t)), .fz told, .fz back, a15, c16, .un] := by
  refine seq_i fun N3 hN3 => ?_
  have k3 : ∀ X, valOk X → N3 [.io 0 p, .fz (.tup (rs.map .str)), .fz d, .fz hv, .fz (nearV rs A), a5, a6, a7, a8, a9, a10, .fz (.str (nm rs s)), .fz (.str (nm rs t)), .fz told, .fz back, .ow (.lst [told, back, .non, .tup [], .tup [.str (nm rs s), .str (nm rs t)], .tup [.str (nm rs s)], X]), c16, .un] := fun X vX => by
    refine hN3 _ ?_
    clear hN3
    have v0 : ∀ x ∈ [told, back, .non, .tup [], .tup [.str (nm rs s), .str (nm rs t)], .tup [.str (nm rs s)], X], valOk x := fun x mx => by
      simp only [List.mem_cons, List.not_mem_nil, or_false] at mx
      rcases mx with rfl | rfl | rfl | rfl | rfl | rfl | rfl
      · exact vt
      · exact vback
      · exact val_n
      · exact val_t (by simp) (by simp)
      · exact val_in ok (l := [nm rs s, nm rs t]) (by simp) fun x m => by
          simp only [List.mem_cons, List.not_mem_nil, or_false] at m
          rcases m with rfl | rfl
          · exact nm_mem hs
          · exact nm_mem ht
      · exact val_in ok (l := [nm rs s]) (by simp) fun x m => by
          rw [List.mem_singleton.mp m]
          exact nm_mem hs
      · exact vX
    revert v0
    generalize hvs : [told, back, .non, .tup [], .tup [.str (nm rs s), .str (nm rs t)], .tup [.str (nm rs s)], X] = vs
    have vsl : vs.length = 7 := by rw [← hvs]; rfl
    clear hvs
    intro v0
    refine seq_i fun N4 hN4 => ?_
    refine six_loop H ok (by omega) hs ht pk vsl v0 fun vs p3 c16 vl v0 pk3 => ?_
    refine hN4 _ ?_
    exact last_loop H ok hh hs ht (k := k + 120) (by omega) pk3 vl v0 vb fun p4 b8 b9 c15 c16 pk4 => hR p4 b8 b9 c15 c16 pk4
  refine set_i ?_
  rcases vb with rfl | ⟨l, rfl, _⟩
  · simp [-isN, isN_non]
    exact k3 _ val_l
  · have : isN (.tup (l.map .str)) = false := rfl
    simp [-isN, this]
    exact k3 _ val_l
theorem tail1 {S : Sps} {C : Nat} (H : SpOk S C) {rs : List Str} {A : Nat → Nat → Bool} {hv d : D} {k s t : Nat} {a5 a6 a7 a8 a9 a10 a15 c16 : Sl} {told back p : D} {K : EndD} (ok : RsOk rs) (hh : Hou C rs A hv) (hs : s < rs.length) (ht : t < rs.length) (sy : Sym A) (hk : k + 800 < 2 ^ 30) (pk : PotOk k p) (w1 : WayV rs A s t told) (w2 : WayV rs A t s back)
    (hR : ∀ (p3 : D) (b8 b9 c15 c16 : Sl), PotOk (k + 140) p3 → K.nx [.io 0 p3, .fz (.tup (rs.map .str)), .fz d, .fz hv, .fz (nearV rs A), a5, a6, a7, b8, b9, a10, .fz (.str (nm rs s)), .fz (.str (nm rs t)), .fz told, .fz back, c15, c16, .un]) : (wSeq (wIfS (tOr (tNot (tV (wCall S._law_is_way (asApp (asV (wN 4) (asV (wN 11) (asV (wN 12) (asV (wN 13) asN)))) asN)))) (tV (wOp kNe (rE (wOp kIs (rN 13) (rE (wC .non)))) (rE (wOp kIs (rN 14) (rE (wC .non))))))) (wRet (wC (.bl false))) wPass)
  (wSeq (wIfS (tAnd (tV (wOp kIsNot (rN 13) (rE (wC .non)))) (tV (wOp kNe (rE (wB kLen (rsC (rN 14) rsN))) (rE (wB kLen (rsC (rN 13) rsN)))))) (wRet (wC (.bl false))) wPass)
  (wSeq (wSet 15 (wLst (vsC (wN 13) (vsC (wN 14) (vsC (wC .non) (vsC (wTup vsN) (vsC (wTup (vsC (wN 11) (vsC (wN 12) vsN))) (vsC (wTup (vsC (wN 11) vsN)) (vsC (wIf (tV (wOp kIsNot (rN 13) (rE (wC .non)))) (wB kList (rsC (rN 13) rsN)) (wLst (vsC (wN 11) vsN))) vsN)))))))))
  (wSeq (wFor (iRng1 (rE (wC (.int 6)))) (gN 16) (wDrop (wMut "list" kAppend 15 (vsC (wB kTuple (rsC (rE (wOp kAdd (rE (wOp kAdd (rE (wLst (vsC (wN 11) vsN))) (rE (wCall S._law_some (asApp (asS 0 (asV (wN 1) (asV (wCall S._law_take (asApp (asS 0 (asV (wB kLen (rsC (rN 1) rsN)) asN)) asN)) asN))) asN))))) (rE (wLst (vsC (wN 12) vsN))))) rsN)) vsN))))
  (wFor (iSq (wOp kAdd (rN 15) (rE (wLc (iRng1 (rE (wC (.int 4)))) (gN 16) tYes (wCall S._law_bent (asApp (asS 0 (asV (wN 13) asN)) asN)) [16])))) (gN 9) (wSeq (wSet 8 (wCall S._law_is_way (asApp (asV (wN 4) (asV (wN 11) (asV (wN 12) (asV (wN 9) asN)))) asN)))
  (wIfS (tV (wOp kNe (rE (wB kRepr (rsC (rE (wCall S.shows_way (asApp asN (asV (wN 3) (asV (wN 11) (asV (wN 12) (asV (wN 9) asN))))))) rsN))) (rE (wB kRepr (rsC (rN 8) rsN))))) (wRet (wC (.bl false))) wPass))))))) K [.io 0 p, .fz (.tup (rs.map .str)), .fz d, .fz hv, .fz (nearV rs A), a5, a6, a7, a8, a9, a10, .fz (.str (nm rs s)), .fz (.str (nm rs t)), .fz told, .fz back, a15, c16, .un] := by
  have n16 := ok.2.2.2
  have vals : ∀ (told : D) (s t : Nat), WayV rs A s t told → valOk told ∧ (told = .non ∨ ∃ l : List Str, told = .tup (l.map .str) ∧ l.length ≤ 100 ∧ ∀ x ∈ l, PyData.strOk x = true) := fun told s t w => by
    rcases w with ⟨rfl, _⟩ | ⟨q, e, rfl, wq, ql, de⟩
    · exact ⟨val_n, .inl rfl⟩
    · have := dst_lt de
      refine ⟨val_way ok (by omega) wq.lt, .inr ⟨q.map (nm rs), wayD_map q, by rw [List.length_map]; omega, fun x m => ?_⟩⟩
      obtain ⟨i, mi, rfl⟩ := List.mem_map.mp m
      exact (ok.1 _ (nm_mem (wq.lt i mi))).ok
  have two := ways_two sy w1 w2
  obtain ⟨vt, vb⟩ := vals told s t w1
  have vback := (vals back t s w2).1
  refine seq_i fun N1 hN1 => ifS_i fun A3 B3 hA3 hB3 => ?_
  have b3 : B3 [.io 0 p, .fz (.tup (rs.map .str)), .fz d, .fz hv, .fz (nearV rs A), a5, a6, a7, a8, a9, a10, .fz (.str (nm rs s)), .fz (.str (nm rs t)), .fz told, .fz back, a15, c16, .un] := by
    refine hB3 _ ?_
    simp only [wPass]
    refine hN1 _ ?_
    clear hB3 hA3 hN1
    refine seq_i fun N2 hN2 => ifS_i fun A4 B4 hA4 hB4 => ?_
    have b4 : B4 [.io 0 p, .fz (.tup (rs.map .str)), .fz d, .fz hv, .fz (nearV rs A), a5, a6, a7, a8, a9, a10, .fz (.str (nm rs s)), .fz (.str (nm rs t)), .fz told, .fz back, a15, c16, .un] := by
      refine hB4 _ ?_
      simp only [wPass]
      refine hN2 _ ?_
      exact tail3 H ok hh hs ht (by omega) pk vt vback vb hR
    rcases two with ⟨rfl, rfl⟩ | ⟨q1, q2, rfl, rfl, e1, e2, e3, e4⟩
    · simp [-isN, isN_non]
      exact b4
    · simp [-isN, isN_way, wayD, e1]
      simpa [wayD] using b4
  have tt : ∀ R : Bool → En → Prop, R true [.io 0 p, .fz (.tup (rs.map .str)), .fz d, .fz hv, .fz (nearV rs A), a5, a6, a7, a8, a9, a10, .fz (.str (nm rs s)), .fz (.str (nm rs t)), .fz told, .fz back, a15, c16, .un] → tV (wCall S._law_is_way (asApp (asV (wN 4) (asV (wN 11) (asV (wN 12) (asV (wN 13) asN)))) asN)) K.ex [.io 0 p, .fz (.tup (rs.map .str)), .fz d, .fz hv, .fz (nearV rs A), a5, a6, a7, a8, a9, a10, .fz (.str (nm rs s)), .fz (.str (nm rs t)), .fz told, .fz back, a15, c16, .un] R := fun R h => by
    simp [H.is_way]
    refine ⟨rs, A, s, t, told, rfl, ok, hs, ht, vt, fun b sb => ?_⟩
    rw [way_shows ok w1 sb]
    simp
    exact h
  simp only [Pu.tOr, Pu.tNot]
  refine tt _ ?_
  rcases two with ⟨rfl, rfl⟩ | ⟨q1, q2, rfl, rfl, e1, e2, e3, e4⟩
  · simp [-isN, isN_non]
    refine ⟨rfl, ?_⟩
    rw [if_pos (show beq (D.bl true) (D.bl true) = true from rfl)]
    exact b3
  · simp [-isN, isN_way]
    refine ⟨rfl, ?_⟩
    rw [if_pos (show beq (D.bl false) (D.bl false) = true from rfl)]
    exact b3
theorem kb2 {S : Sps} {C : Nat} (H : SpOk S C) {K : EndD} {rs : List Str} {A : Nat → Nat → Bool} {hv p d : D} {k : Nat} {a5 a6 a7 a8 a9 a10 a11 a12 a13 a14 a15 a16 : Sl} (ok : RsOk rs) (sy : Sym A) (hh : Hou C rs A hv) (pk : PotOk k p) (hk : k + 900 < 2 ^ 30)
    (hq : ∀ p' b8 b9 b11 b12 b13 b14 b15 b16, PotOk (k + 150) p' → K.nx [.io 0 p', .fz (.tup (rs.map .str)), .fz d, .fz hv, .fz (nearV rs A), a5, a6, a7, b8, b9, a10, b11, b12, b13, b14, b15, b16, .un]) : (wSeq (wPar [11, 12] (hsC (wCall S._law_of (asApp (asS 0 (asV (wN 1) asN)) asN)) (hsC (wCall S._law_of (asApp (asS 0 (asV (wN 1) asN)) asN)) hsN)))
  (wSeq (wPar [13, 14] (hsC (wCall S.way (asApp asN (asV (wN 3) (asV (wN 11) (asV (wN 12) asN))))) (hsC (wCall S.way (asApp (asV (wN 3) (asV (wN 12) (asV (wN 11) asN))) asN)) hsN)))
  (wSeq (wIfS (tOr (tNot (tV (wCall S._law_is_way (asApp (asV (wN 4) (asV (wN 11) (asV (wN 12) (asV (wN 13) asN)))) asN)))) (tV (wOp kNe (rE (wOp kIs (rN 13) (rE (wC .non)))) (rE (wOp kIs (rN 14) (rE (wC .non))))))) (wRet (wC (.bl false))) wPass)
  (wSeq (wIfS (tAnd (tV (wOp kIsNot (rN 13) (rE (wC .non)))) (tV (wOp kNe (rE (wB kLen (rsC (rN 14) rsN))) (rE (wB kLen (rsC (rN 13) rsN)))))) (wRet (wC (.bl false))) wPass)
  (wSeq (wSet 15 (wLst (vsC (wN 13) (vsC (wN 14) (vsC (wC .non) (vsC (wTup vsN) (vsC (wTup (vsC (wN 11) (vsC (wN 12) vsN))) (vsC (wTup (vsC (wN 11) vsN)) (vsC (wIf (tV (wOp kIsNot (rN 13) (rE (wC .non)))) (wB kList (rsC (rN 13) rsN)) (wLst (vsC (wN 11) vsN))) vsN)))))))))
  (wSeq (wFor (iRng1 (rE (wC (.int 6)))) (gN 16) (wDrop (wMut "list" kAppend 15 (vsC (wB kTuple (rsC (rE (wOp kAdd (rE (wOp kAdd (rE (wLst (vsC (wN 11) vsN))) (rE (wCall S._law_some (asApp (asS 0 (asV (wN 1) (asV (wCall S._law_take (asApp (asS 0 (asV (wB kLen (rsC (rN 1) rsN)) asN)) asN)) asN))) asN))))) (rE (wLst (vsC (wN 12) vsN))))) rsN)) vsN))))
  (wFor (iSq (wOp kAdd (rN 15) (rE (wLc (iRng1 (rE (wC (.int 4)))) (gN 16) tYes (wCall S._law_bent (asApp (asS 0 (asV (wN 13) asN)) asN)) [16])))) (gN 9) (wSeq (wSet 8 (wCall S._law_is_way (asApp (asV (wN 4) (asV (wN 11) (asV (wN 12) (asV (wN 9) asN)))) asN)))
  (wIfS (tV (wOp kNe (rE (wB kRepr (rsC (rE (wCall S.shows_way (asApp asN (asV (wN 3) (asV (wN 11) (asV (wN 12) (asV (wN 9) asN))))))) rsN))) (rE (wB kRepr (rsC (rN 8) rsN))))) (wRet (wC (.bl false))) wPass))))))))) K [.io 0 p, .fz (.tup (rs.map .str)), .fz d, .fz hv, .fz (nearV rs A), a5, a6, a7, a8, a9, a10, a11, a12, a13, a14, a15, a16, .un] := by
  have n1 := ok.2.2.1
  have n16 := ok.2.2.2
  have items : ∀ x ∈ rs.map D.str, ∃ i, i < rs.length ∧ x = .str (nm rs i) := fun x m => by
    obtain ⟨y, my, rfl⟩ := List.mem_map.mp m
    exact ⟨ix rs y, ix_lt my, by rw [nm_ix my]⟩
  refine seq_i fun N hN => ?_
  simp [H.of]
  refine ⟨p, _, k, rs.map .str, rfl, rfl, pk, by omega, by rw [List.length_map]; omega, by rw [List.length_map]; omega, fun x mx p1 pk1 => ?_⟩
  obtain ⟨s, hs, rfl⟩ := items x mx
  simp
  refine ⟨p1, _, k + 1, rs.map .str, rfl, rfl, pk1, by omega, by rw [List.length_map]; omega, by rw [List.length_map]; omega, fun x mx p2 pk2 => ?_⟩
  obtain ⟨t, ht, rfl⟩ := items x mx
  simp
  refine hN _ ?_
  clear hN
  refine seq_i fun N hN => ?_
  simp [H.way]
  refine ⟨rs, A, hv, s, t, rfl, hh, ok, hs, ht, fun told w1 => ?_⟩
  simp
  refine ⟨rs, A, hv, t, s, rfl, hh, ok, ht, hs, fun back w2 => ?_⟩
  simp
  refine hN _ ?_
  exact tail1 H ok hh hs ht sy (by omega) pk2 w1 w2 fun p3 b8 b9 c15 c16 pk3 => hq _ _ _ _ _ _ _ _ _ (pk3.le (by omega))
end K01

set_option Elab.async false
set_option linter.all false
set_option maxRecDepth 100000
set_option maxHeartbeats 4000000
namespace K01
open PySem L2 PySem.Spec PyProof.Rows Pu TL
def spRight : DSp := fun ds Q _ => ∃ (p : D) (k : Nat), ds = [p] ∧ PotOk k p ∧ k + 6000 < 2 ^ 30 ∧ ∀ p', PotOk (k + 6000) p' → Q (.fz (.bl true)) [p']
theorem kp__law_right {S : Sps} {C : Nat} (H : SpOk S C) : keeps [.io] 18 spRight (w__law_right S C) := by
  refine keeps_i fun ds Q E hs hl K hn hr => ?_
  obtain ⟨p, k, rfl, pk, hk, q⟩ := hs
  unfold w__law_right
  refine seq_i fun N hN => ?_
  simp [H.draw]
  refine ⟨p, k, 12, rfl, pk, by omega, by decide, by decide, fun rs ds p1 ok hlen po pk1 => ?_⟩
  simp [houseT]
  refine hN _ ?_
  refine seq_i fun N hN => ?_
  simp [H.text]
  refine ⟨rs, ds, rfl, ok, po, fun text lok => ?_⟩
  simp [H.house]
  refine ⟨text, rs, ds, rfl, lok, fun told tt => ?_⟩
  have hh := hou_of (C := C) (text := text) ok po tt
  have sy : Sym (adjS rs ds) := adjS_symm
  revert hh
  generalize houD C text rs told = hv
  intro hh
  simp [H.near]
  refine ⟨rs, ds, rfl, ok, po, ?_⟩
  simp
  refine hN _ ?_
  have n16 := ok.2.2.2
  have n1 := ok.2.2.1
  have nsz : rs.length ≤ sizeLine := len_sz n16
  revert hh sy
  generalize adjS rs ds = A
  intro sy hh
  refine seq_i fun N hN => ?_
  refine forW' [.io 0 p1, .fz (.tup (rs.map .str)), .fz (.tup (prs ds)), .fz hv, .fz (nearV rs A), .un, .un, .un, .un, .un, .un, .un, .un, .un, .un, .un, .un, .un] (List.range 6) intD (fun P h => by simp; exact h) (fun i ρ => ∃ (p' : D) (a5 a6 a7 a8 a9 a10 : Sl), ρ = [.io 0 p', .fz (.tup (rs.map .str)), .fz (.tup (prs ds)), .fz hv, .fz (nearV rs A), a5, a6, a7, a8, a9, a10, .un, .un, .un, .un, .un, .un, .un] ∧ PotOk (k + 4000 + 30 * i) p') ⟨p1, _, _, _, _, _, _, rfl, pk1⟩ (fun i hi ρ N' hW hN' => ?_) (fun ρ hW => ?_)
  · obtain ⟨p', a5, a6, a7, a8, a9, a10, rfl, pk'⟩ := hW
    have hi : i < 6 := by simpa using hi
    simp only [gN, List.set_cons_succ, List.set_cons_zero]
    refine seq_i fun N1 hN1 => ?_
    simp [H.lot]
    refine ⟨p', _, rs, rfl, pk', by omega, ok, fun lot p2 pk2 => ?_⟩
    simp
    refine hN1 _ ?_
    refine seq_i fun N2 hN2 => ?_
    have k2 : N2 [.io 0 p2, .fz (.tup (rs.map .str)), .fz (.tup (prs ds)), .fz hv, .fz (nearV rs A), .fz (intD i), .fz (lotD rs lot), .ow (.lst ((pick rs fun j => !lot j).map .str)), a8, a9, a10, .un, .un, .un, .un, .un, .un, .un] := by
      refine hN2 _ ?_
      clear hN2 hN1
      refine seq_i fun N3 hN3 => ifS_i fun A3 B3 hA3 hB3 => ?_
      refine repr_ne (repr_parts (A := A) (f := fun j => !lot j) ok) (ρ1 := [.io 0 p2, .fz (.tup (rs.map .str)), .fz (.tup (prs ds)), .fz hv, .fz (nearV rs A), .fz (intD i), .fz (lotD rs lot), .ow (.lst ((pick rs fun j => !lot j).map .str)), a8, a9, a10, .un, .un, .un, .un, .un, .un, .un]) (ρ2 := [.io 0 p2, .fz (.tup (rs.map .str)), .fz (.tup (prs ds)), .fz hv, .fz (nearV rs A), .fz (intD i), .fz (lotD rs lot), .fz (.lst ((pick rs fun j => !lot j).map .str)), a8, a9, a10, .un, .un, .un, .un, .un, .un, .un]) (fun Q q => ?_) (fun Q q => ?_) ?_
      · simp [H.parts]
        exact ⟨rs, A, hv, lot, rfl, hh, ok, sy, q⟩
      · simp [H.lparts]
        refine ⟨rs, A, fun j => !lot j, _, rfl, .inr rfl, ok, ?_⟩
        simp
        exact q
      rw [if_neg (by simp)]
      refine hB3 _ ?_
      simp only [wPass]
      refine hN3 _ ?_
      clear hN3 hA3 hB3 A3 B3 N3
      refine seq_i fun N3 hN3 => ifS_i fun A3 B3 hA3 hB3 => ?_
      obtain ⟨ρ3, hρ3⟩ : ∃ ρ3 : En, ρ3 = [.io 0 p2, .fz (.tup (rs.map .str)), .fz (.tup (prs ds)), .fz hv, .fz (nearV rs A), .fz (intD i), .fz (lotD rs lot), .fz (.lst ((pick rs fun j => !lot j).map .str)), a8, a9, a10, .un, .un, .un, .un, .un, .un, .un] := ⟨_, rfl⟩
      rw [← hρ3]
      refine repr_ne (repr_bl (decide ((reps rs.length A lot).length = 1))) (ρ1 := ρ3) (ρ2 := ρ3) (fun Q q => ?_) (fun Q q => ?_) ?_
      · subst hρ3
        simp [H.joined]
        exact ⟨rs, A, hv, lot, rfl, hh, ok, sy, q⟩
      · subst hρ3
        simp [H.lparts]
        refine ⟨rs, A, lot, _, rfl, .inl rfl, ok, ?_⟩
        simp [partsD]
        have e : (((reps rs.length A lot).length : Int) == 1) = decide ((reps rs.length A lot).length = 1) := by
          rw [Bool.eq_iff_iff, decide_eq_true_iff, beq_iff_eq]
          omega
        rw [e]
        exact q
      rw [if_neg (by simp)]
      refine hB3 _ ?_
      simp only [wPass]
      refine hN3 _ ?_
      clear hN3 hA3 hB3 A3 B3 N3
      refine seq_i fun N3 hN3 => ?_
      have k3 : N3 [.io 0 p2, .fz (.tup (rs.map .str)), .fz (.tup (prs ds)), .fz hv, .fz (nearV rs A), .fz (intD i), .fz (lotD rs lot), .fz (.lst ((pick rs fun j => !lot j).map .str)), .fz (lotD rs fun j => round rs.length A lot j && !lot j), a9, a10, .un, .un, .un, .un, .un, .un, .un] := by
        refine hN3 _ ?_
        clear hN3 hρ3 ρ3
        refine seq_i fun N3 hN3 => ifS_i fun A3 B3 hA3 hB3 => ?_
        refine repr_neN (repr_lot ok (fun j => round rs.length A lot j && !lot j)) (ρ1 := [.io 0 p2, .fz (.tup (rs.map .str)), .fz (.tup (prs ds)), .fz hv, .fz (nearV rs A), .fz (intD i), .fz (lotD rs lot), .fz (.lst ((pick rs fun j => !lot j).map .str)), .fz (lotD rs fun j => round rs.length A lot j && !lot j), a9, a10, .un, .un, .un, .un, .un, .un, .un]) (fun Q q => ?_) rfl ?_
        · simp [H.beside]
          exact ⟨rs, A, hv, lot, rfl, hh, ok, q⟩
        rw [if_neg (by simp)]
        refine hB3 _ ?_
        simp only [wPass]
        refine hN3 _ ?_
        clear hN3 hA3 hB3 A3 B3 N3
        refine for_i fun W hW => ?_
        obtain ⟨c1, e1, f1, g1⟩ := strs_cut (pick rs lot) none (some 1)
        have pl := pick_len rs lot
        have th : 1000 ≤ sizeLine := by decide
        have oks : ∀ x ∈ pick rs lot, PyData.strOk x = true := fun x m => (ok.1 x (pick_sub m)).ok
        simp [lotD, H.bent, e1]
        refine ⟨by omega, by omega, p2, _, lotD rs lot, rfl, pk2, by omega, .inr ⟨pick rs lot, rfl, by omega, oks⟩, fun r p3 v1 pk3 => ?_⟩
        have kW : W [D.tup ((pick rs lot).map .str), .tup ((pick rs lot).map .str).reverse, .lst ((pick rs lot).map .str), .tup ((pick rs lot).map .str ++ c1.map .str), .non, .tup ((pick rs lot).map .str ++ [.str "nobody"]), r] [.io 0 p3, .fz (.tup (rs.map .str)), .fz (.tup (prs ds)), .fz hv, .fz (nearV rs A), .fz (intD i), .fz (lotD rs lot), .fz (.lst ((pick rs fun j => !lot j).map .str)), .fz (lotD rs fun j => round rs.length A lot j && !lot j), a9, a10, .un, .un, .un, .un, .un, .un, .un] := by
          refine hW _ _ ?_
          clear hW W
          have vals : ∀ x ∈ [D.tup ((pick rs lot).map .str), .tup ((pick rs lot).map .str).reverse, .lst ((pick rs lot).map .str), .tup ((pick rs lot).map .str ++ c1.map .str), .non, .tup ((pick rs lot).map .str ++ [.str "nobody"]), r], valOk x := fun x mx => by
            have ok1 : ∀ l' : List Str, (∀ x ∈ l', x ∈ pick rs lot) → ∀ x ∈ l', PyData.strOk x = true := fun l' h x m => oks x (h x m)
            simp only [List.mem_cons, List.not_mem_nil, or_false] at mx
            rcases mx with rfl | rfl | rfl | rfl | rfl | rfl | rfl
            · exact val_strs (by omega) oks
            · rw [← List.map_reverse]
              exact val_strs (by rw [List.length_reverse]; omega) fun x m => oks x (List.mem_reverse.mp m)
            · exact val_l
            · rw [← List.map_append]
              exact val_strs (by rw [List.length_append]; omega) fun x m => (List.mem_append.mp m).elim (oks x) (ok1 _ g1 x)
            · exact val_n
            · rw [show (pick rs lot).map D.str ++ [D.str "nobody"] = (pick rs lot ++ [("nobody" : Str)]).map .str by rw [List.map_append]; rfl]
              refine val_strs (by rw [List.length_append, List.length_singleton]; omega) fun x m => (List.mem_append.mp m).elim (oks x) fun m => by
                rw [List.mem_singleton.mp m]; decide +kernel
            · exact v1
          refine forW' _ _ id (fun P h => by rw [List.map_id] at h; exact h) (fun _ ρ => ∃ a9 a10, ρ = [.io 0 p3, .fz (.tup (rs.map .str)), .fz (.tup (prs ds)), .fz hv, .fz (nearV rs A), .fz (intD i), .fz (lotD rs lot), .fz (.lst ((pick rs fun j => !lot j).map .str)), .fz (lotD rs fun j => round rs.length A lot j && !lot j), a9, a10, .un, .un, .un, .un, .un, .un, .un]) ⟨_, _, rfl⟩ (fun t ht ρ N4 hW hN4 => ?_) (fun ρ hW => ?_)
          · obtain ⟨a9, a10, rfl⟩ := hW
            have hv1 := vals _ (List.getElem_mem ht)
            revert hv1
            generalize [D.tup ((pick rs lot).map .str), .tup ((pick rs lot).map .str).reverse, .lst ((pick rs lot).map .str), .tup ((pick rs lot).map .str ++ c1.map .str), .non, .tup ((pick rs lot).map .str ++ [.str "nobody"]), r][t] = v
            intro hv1
            simp only [gN, List.set_cons_succ, List.set_cons_zero, id]
            refine seq_i fun N5 hN5 => ?_
            simp only [wSet]
            refine look_valE hv1 rfl rfl ?_
            simp only [List.set_cons_succ, List.set_cons_zero]
            refine hN5 _ ?_
            clear hN5
            refine seq_i fun N5 hN5 => ?_
            have k5 : N5 [.io 0 p3, .fz (.tup (rs.map .str)), .fz (.tup (prs ds)), .fz hv, .fz (nearV rs A), .fz (intD i), .fz (lotD rs lot), .fz (.lst ((pick rs fun j => !lot j).map .str)), .fz (lotD rs fun j => round rs.length A lot j && !lot j), .fz v, .fz (.bl (lotB rs v)), .un, .un, .un, .un, .un, .un, .un] := by
              refine hN5 _ ?_
              refine ifS_i fun A3 B3 hA3 hB3 => ?_
              refine repr_neN (repr_bl (lotB rs v)) (ρ1 := [.io 0 p3, .fz (.tup (rs.map .str)), .fz (.tup (prs ds)), .fz hv, .fz (nearV rs A), .fz (intD i), .fz (lotD rs lot), .fz (.lst ((pick rs fun j => !lot j).map .str)), .fz (lotD rs fun j => round rs.length A lot j && !lot j), .fz v, .fz (.bl (lotB rs v)), .un, .un, .un, .un, .un, .un, .un]) (fun Q q => ?_) rfl ?_
              · simp [H.is_lot]
                exact ⟨rs, A, hv, v, rfl, hh, ok, hv1, q⟩
              rw [if_neg (by simp)]
              refine hB3 _ ?_
              simp only [wPass]
              exact hN4 _ ⟨_, _, rfl⟩
            simp only [wSet, wAnd]
            cases htv : tupS v with
            | none =>
              have : lotB rs v = false := by unfold lotB; rw [htv]
              rw [this] at k5
              simpa using k5
            | some l =>
              rcases val_cases hv1 with ⟨f1, f2⟩ | ⟨xs, rfl, f1, f2, f3, f4⟩ | ⟨l', rfl, f2, f3, f4⟩
              · rw [f2] at htv; cases htv
              · rw [f2] at htv; cases htv
              · rw [f2] at htv
                cases htv
                have gl := good_tupO f4
                have gf : ∀ rs' : List Str, (∀ x ∈ rs', OkName x) → (D.tup (rs'.map D.str)).good = true := fun rs' h => good_tupO fun x m => (h x m).ok
                simp only [wN, Option.isSome, List.getElem?_cons_succ, List.getElem?_cons_zero, if_true]
                simp only [wOp, rN, wB, rsC, rE, rsN, List.getElem?_cons_succ, List.getElem?_cons_zero]
                refine lcB rs D.str (fun x => decide (x ∈ l)) D.str (fun P h => by simpa using h) nsz (fun x m P N h1 h2 => ?_) ?_
                · simp [good_str (ok.1 x m).ok, gl, any_strs]
                  by_cases hx : x ∈ l
                  · simp [hx] at h1 ⊢
                    exact h1
                  · simp [hx] at h2 ⊢
                    exact h2
                · have gf2 := gf (rs.filter fun x => decide (x ∈ l)) fun x m => ok.1 x (List.mem_filter.mp m).1
                  have el : lotB rs (.tup (l.map .str)) = decide (l = rs.filter fun x => decide (x ∈ l)) := by unfold lotB; rw [f2]
                  rw [el] at k5
                  simp [gl, gf2, beq_tups]
                  simpa using k5
          · obtain ⟨a9, a10, rfl⟩ := hW
            exact hN' _ ⟨p3, _, _, _, _, _, _, rfl, pk3.le (by omega)⟩
        unfold lotD at kW
        simpa using kW
      subst hρ3
      simp only [wSet, wB, rsC, rE, rsN]
      refine lcB (nums rs.length fun j => !lot j) (nmD rs) (round rs.length A lot) (nmD rs) (fun P h => ?_) (Nat.le_trans (by have := List.length_filter_le (fun j => !lot j) (List.range rs.length); rw [List.length_range] at this; exact this) nsz) (fun j mj P N h1 h2 => ?_) ?_
      · rw [← lot_lst] at h
        simpa using h
      · obtain ⟨hj, hlj⟩ := mem_nums.mp mj
        simp only [gN, wipeE, List.set_cons_succ, List.set_cons_zero] at h1 h2 ⊢
        refine bs_any (nums rs.length (A j)) (nmD rs) lot _ (fun P h => ?_) rfl ?_ (fun x mx Q q => ?_) ?_
        · have nl := near_look (A := A) ok hj
          rw [lot_nms] at nl
          simp [nearV, nmD, nl]
          simpa [nearV, nmD] using h
        · exact Nat.le_trans (by have := List.length_filter_le (A j) (List.range rs.length); rw [List.length_range] at this; exact this) (show rs.length ≤ 1000 by omega)
        · have hx := (mem_nums.mp mx).1
          exact lot_inE (f := lot) ok hx rfl rfl q
        · have e : (nums rs.length (A j)).any lot = round rs.length A lot j := by
            rw [Bool.eq_iff_iff]
            unfold round
            simp only [List.any_eq_true, mem_nums, List.mem_range, Bool.and_eq_true]
            constructor
            · rintro ⟨x, ⟨hx, ha⟩, hl⟩
              exact ⟨x, hx, hl, by rw [sy]; exact ha⟩
            · rintro ⟨x, hx, hl, ha⟩
              exact ⟨x, ⟨hx, by rw [sy]; exact ha⟩, hl⟩
          rw [e]
          cases hr : round rs.length A lot j with
          | true =>
            rw [if_pos rfl]
            simpa [nmD] using h1 hr
          | false =>
            rw [if_neg (by simp)]
            simpa [nmD] using h2 hr
      · have e : (nums rs.length fun j => !lot j).filter (round rs.length A lot) = nums rs.length (fun j => round rs.length A lot j && !lot j) := by
          unfold nums
          rw [List.filter_filter]
        rw [e]
        rw [lot_nms (p := fun j => round rs.length A lot j && !lot j)] at k3
        simpa using k3
    simp only [wSet]
    refine lcB (List.range rs.length) (nmD rs) (fun j => !lot j) (nmD rs) (fun P h => ?_) (by rw [List.length_range]; exact nsz) (fun j mj P N h1 h2 => ?_) ?_
    · rw [rs_nms] at h
      simpa using h
    · have hj := List.mem_range.mp mj
      simp only [gN, wipeE, List.set_cons_succ, List.set_cons_zero]
      refine lot_nin (f := lot) ok hj rfl rfl ?_
      cases hl : lot j with
      | true =>
        have := h2 (by rw [hl]; rfl)
        simpa using this
      | false =>
        have := h1 (by rw [hl]; rfl)
        simpa [nmD] using this
    · rw [show (List.range rs.length).filter (fun j => !lot j) = nums rs.length (fun j => !lot j) from rfl, ← lot_lst]
      simpa using k2
  · obtain ⟨p', a5, a6, a7, a8, a9, a10, rfl, pk'⟩ := hW
    rw [List.length_range] at pk'
    refine hN _ ?_
    clear hN
    refine seq_i fun N hN => ?_
    refine forW' _ (List.range 4) intD (fun P h => by simp; exact h) (fun i ρ => ∃ (p' : D) (a5 a8 a9 a11 a12 a13 a14 a15 a16 : Sl), ρ = [.io 0 p', .fz (.tup (rs.map .str)), .fz (.tup (prs ds)), .fz hv, .fz (nearV rs A), a5, a6, a7, a8, a9, a10, a11, a12, a13, a14, a15, a16, .un] ∧ PotOk (k + 4180 + 150 * i) p') ⟨p', _, _, _, _, _, _, _, _, _, rfl, pk'⟩ (fun i hi ρ N' hW hN' => ?_) (fun ρ hW => ?_)
    · obtain ⟨p', a5, a8, a9, a11, a12, a13, a14, a15, a16, rfl, pk'⟩ := hW
      have hi : i < 4 := by simpa using hi
      simp only [gN, List.set_cons_succ, List.set_cons_zero]
      exact kb2 H ok sy hh pk' (by omega) fun p' b8 b9 b11 b12 b13 b14 b15 b16 pk' => hN' _ ⟨p', _, _, _, _, _, _, _, _, _, rfl, pk'⟩
    · obtain ⟨p', a5, a8, a9, a11, a12, a13, a14, a15, a16, rfl, pk'⟩ := hW
      rw [List.length_range] at pk'
      refine hN _ ?_
      simp
      refine hr _ _ ?_
      have := q p' (pk'.le (by omega))
      simpa using this
def spLaw : DSp := fun ds Q _ => ∃ ns, ds = [.scr ns] ∧ Q (.fz (.bl true)) [.non]
theorem kp_law {S : Sps} {C : Nat} (h1 : S._law_cells = spCells) (h2 : S._law_pot = spPot) (h3 : S._law_right = spRight) : keeps [.fz] 4 spLaw (w_law S C) := by
  refine keeps_i fun ds Q E hs hl K hn hr => ?_
  obtain ⟨ns, rfl, q⟩ := hs
  unfold w_law
  refine seq_i fun N hN => ?_
  refine wFor_eq ?_
  simp [h1]
  refine ⟨ns, rfl, fun m m1 m2 => ?_⟩
  simp
  refine forJ (List.range m) intD (fun P h => h) (fun i a b _ _ => [.fz (.scr ns), a, b, .un]) ⟨.un, .un, .un, .un, rfl⟩ (fun i hi a b _ _ N hN => ?_) (fun a b _ _ => hN _ ?_)
  · have hi : i < m := by simpa using hi
    rw [List.getElem_range]
    simp only [gN, List.set_cons_succ, List.set_cons_zero]
    refine seq_i fun N1 hN1 => ?_
    simp [h2, intD]
    refine ⟨ns, i, rfl, by omega, by omega, fun p pk => ?_⟩
    simp
    refine hN1 _ ?_
    refine ifS_i fun A B hA hB => ?_
    simp only [Pu.tNot, tV, wB, rsC, rE, rsN]
    refine lcW (List.range 4) intD (fun P h => by simp; exact h) (fun j acc ρ => ∃ p' : D, ρ = [.fz (.scr ns), .fz (.int i), .ow p', .un] ∧ (∃ k, PotOk k p' ∧ k ≤ 6000 * j) ∧ acc = List.replicate j (.bl true)) ⟨p, rfl, ⟨0, pk, by omega⟩, rfl⟩ (fun j hj acc ρ P hW hP => ?_) (fun acc ρ hW => ?_)
    · obtain ⟨p', rfl, ⟨k, pk', hk⟩, rfl⟩ := hW
      have hj : j < 4 := by simpa using hj
      simp [h3]
      refine ⟨p', k, rfl, pk', by omega, fun p2 pk2 => ?_⟩
      simp
      exact hP _ _ (by rw [List.length_replicate]; exact Nat.lt_trans hj (by decide)) ⟨p2, rfl, ⟨_, pk2, by omega⟩, by rw [List.replicate_succ']⟩
    · obtain ⟨p', rfl, ⟨k, pk', hk⟩, rfl⟩ := hW
      simp [blsOf, List.replicate]
      refine hB _ ?_
      simp
      exact hN _ _ .un .un
  · simp
    refine hr _ _ ?_
    simpa using q
end K01

set_option Elab.async false
set_option linter.all false
set_option maxRecDepth 100000
set_option maxHeartbeats 2000000
namespace K01
open PySem L2 PySem.Spec PyProof.Rows Pu TL
theorem let_in : ∀ c, c < 26 → subS ⟨#[97 + c]⟩ "abcdefghijklmnopqrstuvwxyz" = true := by decide +kernel
theorem fig_in : ∀ c, c < 10 → subS ⟨#[48 + c]⟩ "0123456789" = true := by decide +kernel
theorem fig_let : ∀ c, c < 10 → subS ⟨#[48 + c]⟩ "abcdefghijklmnopqrstuvwxyz" = false := by decide +kernel
theorem let_of {c : Nat} (h : 97 ≤ c ∧ c ≤ 122) : subS ⟨#[c]⟩ "abcdefghijklmnopqrstuvwxyz" = true := by
  obtain ⟨d, rfl⟩ : ∃ d, c = 97 + d := ⟨c - 97, by omega⟩
  exact let_in d (by omega)
theorem fig_of {c : Nat} (h : 48 ≤ c ∧ c ≤ 57) : subS ⟨#[c]⟩ "0123456789" = true ∧ subS ⟨#[c]⟩ "abcdefghijklmnopqrstuvwxyz" = false := by
  obtain ⟨d, rfl⟩ : ∃ d, c = 48 + d := ⟨c - 48, by omega⟩
  exact ⟨fig_in d (by omega), fig_let d (by omega)⟩
theorem kp_is_name {S : Sps} {C : Nat} : keeps [.fz] 2 spName (w_is_name S C) := by
  refine keeps_i fun ds Q E hs hl K hn hr => ?_
  obtain ⟨x, rfl, ok, q⟩ := hs
  unfold w_is_name
  obtain ⟨c, r, e, c1, c2⟩ := ok.fst
  have hlen : x.cps.toList = c :: r := e
  have h8 : (x.length : Int) ≤ 8 := by have := ok.len; omega
  have h0 : (0 : Int) < x.length := by have : 0 < x.length := ok.some; omega
  have at0' : atI x.cps.toList 0 = some c := by
    rw [hlen]
    have := at_nat (l := c :: r) (i := 0) (by simp)
    simpa using this
  have lc := let_of ⟨c1, c2⟩
  have sz : x.length ≤ sizeLine := Nat.le_trans ok.len (by decide)
  refine seq_i fun N hN => ifS_i fun A B hA hB => ?_
  simp [-Array.length_toList, kb_str, h0, h8, kIx.kIxS, at0', lc, sz]
  rw [if_pos (show 0 < x.length from ok.some)]
  refine hB _ ?_
  simp only [wPass]
  refine hN _ ?_
  simp only [wRet, wB, rsC, rE, rsN]
  refine lcM x.cps.toList (fun c => .str ⟨#[c]⟩) (fun _ => D.bl true) (fun P h => by simpa [-Array.length_toList] using h) sz (fun d md P h => ?_) ?_
  · have hd := List.all_eq_true.mp ok.all d md
    simp only [Bool.or_eq_true, Bool.and_eq_true, decide_eq_true_eq] at hd
    rcases hd with hd | hd
    · have := let_of hd
      unfold subS at this
      simp at h this
      simp [this]
      exact h
    · have f := fig_of hd
      have f2 := f.2
      unfold subS at f2
      simp at h f2
      simp [f2]
      rw [f.1]
      exact h
  · simp [blsOf_m]
    refine hr _ _ ?_
    have e : (x.cps.all fun _ => true) = true := by
      rw [Array.all_eq_true]
      intro _ _
      rfl
    rw [e]
    simpa using q
def mkS (C : Nat) : Sps where
  is_name := spName
  check_house := spCheck C
  check_room := spCheckRoom C
  is_lot_of := spIsLotOf C
  check_lot := spCheckLot C
  is_lot := spIsLotOf C
  bits_of := spBitsOf C
  lot_of := spLotOf C
  near_of := spNearOf C
  around := spAround
  edge_of := spEdge
  part_from := spPartFrom
  parts_of := spPartsOf
  parts := spParts C
  is_joined := spJoined C
  beside := spBeside C
  rows_from := spRows C
  way := spWay C
  is_row_of := spIsRowOf C
  shows_way := spShowsWay C
  has_door := spHasDoor C
  _law_pot := spPot
  _law_take := spTake
  _law_of := spOf
  _law_cells := spCells
  _law_some := spSome
  _law_name := spName1
  _law_names := spNames
  _law_house := spDraw
  _law_text := spText
  _law_near := spNear
  _law_parts := spLawParts
  _law_lot := spLot
  _law_bent := spBent1
  _law_far := spFar
  _law_is_way := spIsWay
  _law_right := spRight
  law := spLaw
  House := spHouse C
def spNever : DSp := fun _ _ _ => False
theorem sp_ok (C : Nat) : SpOk (mkS C) C := ⟨rfl, rfl, rfl, rfl, rfl, rfl, rfl, rfl, rfl, rfl, rfl, rfl, rfl, rfl, rfl, rfl, rfl⟩
theorem law_ok {K : PySem.W.Frag} {mg : Str → Option Value} (T : Txt K mg) {P : Program} {w : World} {base : Heap} : FnG P w K mg base 14 T.f_law.f T.f_law.fd ["script"] (spL K [.fz] spLaw) := by
  have kn : ∀ {P : Program} {w : World} {base : Heap}, FnG P w K mg base 1 T.f_is_name.f T.f_is_name.fd ["value"] (spL K [.fz] (mkS T.C).is_name) := g_is_name T (mkS T.C) kp_is_name
  have hH : HouseOk K mg (mkS T.C).House := house_ok T (mkS T.C) rfl kn
  have zkp_is_name := g_is_name (P := P) (w := w) (base := base) T (mkS T.C)  kp_is_name
  have zkp_check_house := g_check_house (P := P) (w := w) (base := base) T (mkS T.C)  kp_check_house
  have zkp_check_room := g_check_room (P := P) (w := w) (base := base) T (mkS T.C)  kp_check_room
  have zkp_is_lot_of := g_is_lot_of (P := P) (w := w) (base := base) T (mkS T.C)  kp_is_lot_of
  have zkp_check_lot := g_check_lot (P := P) (w := w) (base := base) T (mkS T.C) zkp_check_house zkp_is_lot_of (kp_check_lot rfl rfl)
  have zkp_is_lot := g_is_lot (P := P) (w := w) (base := base) T (mkS T.C) zkp_check_house zkp_is_lot_of (kp_is_lot rfl rfl)
  have zkp_bits_of := g_bits_of (P := P) (w := w) (base := base) T (mkS T.C)  kp_bits_of
  have zkp_lot_of := g_lot_of (P := P) (w := w) (base := base) T (mkS T.C)  kp_lot_of
  have zkp_near_of := g_near_of (P := P) (w := w) (base := base) T (mkS T.C)  kp_near_of
  have zkp_around := g_around (P := P) (w := w) (base := base) T (mkS T.C)  kp_around
  have zkp_edge_of := g_edge_of (P := P) (w := w) (base := base) T (mkS T.C) zkp_around (kp_edge_of rfl)
  have zkp_part_from := g_part_from (P := P) (w := w) (base := base) T (mkS T.C) zkp_around (kp_part_from rfl)
  have zkp_parts_of := g_parts_of (P := P) (w := w) (base := base) T (mkS T.C) zkp_part_from (kp_parts_of rfl)
  have zkp_parts := g_parts (P := P) (w := w) (base := base) T (mkS T.C) zkp_check_lot zkp_bits_of zkp_parts_of zkp_near_of zkp_lot_of (kp_parts rfl rfl rfl rfl rfl)
  have zkp_is_joined := g_is_joined (P := P) (w := w) (base := base) T (mkS T.C) zkp_check_lot zkp_bits_of zkp_parts_of zkp_near_of (kp_is_joined rfl rfl rfl rfl)
  have zkp_beside := g_beside (P := P) (w := w) (base := base) T (mkS T.C) zkp_check_lot zkp_lot_of zkp_edge_of zkp_bits_of zkp_near_of (kp_beside rfl rfl rfl rfl rfl)
  have zkp_rows_from := g_rows_from (P := P) (w := w) (base := base) T (mkS T.C) zkp_near_of zkp_lot_of (kp_rows_from rfl rfl)
  have zkp_way := g_way (P := P) (w := w) (base := base) T (mkS T.C) zkp_check_house zkp_check_room zkp_rows_from (kp_way rfl rfl rfl)
  have zkp_has_door := g_has_door (P := P) (w := w) (base := base) T (mkS T.C)  kp_has_door
  have zkp_is_row_of := g_is_row_of (P := P) (w := w) (base := base) T (mkS T.C) zkp_has_door (kp_is_row_of rfl)
  have zkp_shows_way := g_shows_way (P := P) (w := w) (base := base) T (mkS T.C) zkp_way zkp_is_row_of (kp_shows_way rfl rfl)
  have zkp__law_pot := g__law_pot (P := P) (w := w) (base := base) T (mkS T.C)  kp__law_pot
  have zkp__law_take := g__law_take (P := P) (w := w) (base := base) T (mkS T.C)  kp__law_take
  have zkp__law_of := g__law_of (P := P) (w := w) (base := base) T (mkS T.C) zkp__law_take (kp__law_of rfl)
  have zkp__law_cells := g__law_cells (P := P) (w := w) (base := base) T (mkS T.C)  kp__law_cells
  have zkp__law_some := g__law_some (P := P) (w := w) (base := base) T (mkS T.C) zkp__law_take (kp__law_some rfl)
  have zkp__law_name := g__law_name (P := P) (w := w) (base := base) T (mkS T.C) zkp__law_take (kp__law_name rfl)
  have zkp__law_names := g__law_names (P := P) (w := w) (base := base) T (mkS T.C) zkp__law_some zkp__law_take zkp__law_name (kp__law_names rfl rfl rfl)
  have zkp__law_house := g__law_house (P := P) (w := w) (base := base) T (mkS T.C) zkp__law_take zkp__law_names zkp__law_some (kp__law_house rfl rfl rfl)
  have zkp__law_text := g__law_text (P := P) (w := w) (base := base) T (mkS T.C)  kp__law_text
  have zkp__law_near := g__law_near (P := P) (w := w) (base := base) T (mkS T.C)  kp__law_near
  have zkp__law_parts := g__law_parts (P := P) (w := w) (base := base) T (mkS T.C)  kp__law_parts
  have zkp__law_lot := g__law_lot (P := P) (w := w) (base := base) T (mkS T.C) zkp__law_take (kp__law_lot rfl)
  have zn : FnG P w K mg base 2 T.f__law_bent.f T.f__law_bent.fd ["pot", "value"] (spL K [.io, .fz] spNever) := FnG.def T.f__law_bent.T sc__law_bent (fun vs H Q E h => by obtain ⟨_, _, _, _, _, _, _, _, h, _⟩ := h; exact h.elim) (fun cdv A outer s H vs Q E hr hgd h => by obtain ⟨_, _, _, _, _, _, _, _, h, _⟩ := h; exact h.elim)
  have z0 := g__law_bent (P := P) (w := w) (base := base) T { mkS T.C with _law_bent := spNever } (j := 0) (sp := spBent0) zkp__law_take zn zkp__law_of (kp_bent0 rfl)
  have z1 := g__law_bent (P := P) (w := w) (base := base) T { mkS T.C with _law_bent := spBent0 } (j := 1) (sp := spBent1) zkp__law_take z0 zkp__law_of (kp_bent1 rfl rfl rfl)
  have zkp__law_bent := z1.up (k := 12) (by omega)
  have zkp__law_far := g__law_far (P := P) (w := w) (base := base) T (mkS T.C)  kp__law_far
  have zkp__law_is_way := g__law_is_way (P := P) (w := w) (base := base) T (mkS T.C) zkp__law_far (kp__law_is_way rfl)
  have zkp__law_right := g__law_right (P := P) (w := w) (base := base) T (mkS T.C) zkp__law_house zkp__law_text zkp__law_near zkp__law_lot zkp_parts zkp__law_parts zkp_is_joined zkp_beside zkp__law_bent zkp_is_lot zkp__law_of zkp_way zkp__law_is_way zkp__law_some zkp__law_take zkp_shows_way hH (kp__law_right (sp_ok T.C))
  exact g_law T (mkS T.C) zkp__law_cells zkp__law_pot zkp__law_right (kp_law rfl rfl rfl)
end K01

set_option Elab.async false
set_option linter.all false
set_option maxRecDepth 100000
set_option maxHeartbeats 2000000
namespace K01
open PySem L2 PySem.Spec PyProof.Rows Pu TL
section
variable {K : PySem.W.Frag} {h : Heap} {mg : Str → Option Value}
theorem fd_mk {nm : Str} {st : Stmt} {f : Addr} {oc : Value} {od an : Option Addr} {sl : Array (Option Value)} {kV dc pm cd ct : Value} (X : K.In h) (G : h.Ns mainGlobals mg)
    (a : PySem.W.nsIn K mainGlobals nm = some (some (.ref f))) (l : K.lookup f = some ⟨oc, od, .func (PySem.W.fnOf nm nm (defArgs st) (defBody st) (defScope st) .none kV dc pm an cd ct), sl⟩) (c : PySem.W.codeIn K cd nm = true) (k : PySem.W.keepIn K (.ref f) = true) : Nonempty (Fd K mg nm st) :=
  ⟨⟨f, _, PySem.W.mg_of X G a, k, fun_mk l c k⟩⟩
/-- a def of a class -/
structure MdAt (K : PySem.W.Frag) (C : Addr) (nm qual : Str) (st : Stmt) where
  d : Mdf K nm qual st
  m : Meth K C nm d.f
theorem md_mk {C : Addr} {nm qual : Str} {st : Stmt} {f : Addr} {oc : Value} {od an : Option Addr} {sl : Array (Option Value)} {kV dc pm cd ct : Value}
    (a : PySem.W.findIn K (.ref C) nm = some (some (.ref f))) (i : PySem.W.isFn K (.ref f) = true) (l : K.lookup f = some ⟨oc, od, .func (PySem.W.fnOf nm qual (defArgs st) (defBody st) (defScope st) .none kV dc pm an cd ct), sl⟩) (c : PySem.W.codeIn K cd qual = true) (k : PySem.W.keepIn K (.ref f) = true) : Nonempty (MdAt K C nm qual st) :=
  ⟨⟨⟨f, _, fun_mk l c k⟩, ⟨a, i, k⟩⟩⟩
/-- a property -/
structure PrAt (K : PySem.W.Frag) (mg : Str → Option Value) (C : Addr) (nm own : Str) where
  p : Addr
  g : Addr
  fd : FuncData
  po : PropOf K C nm p g
  ok : ∀ {P : Program} {w : World} {base : Heap}, FnOk P w K mg base CX0 1 g fd ["self"] (getSp C own)
  bd : Binds K fd ["self"] []
theorem scG_doors : FnScope ["self"] ["self"] (defScope sH_doors) := ⟨rfl, rfl, rfl, by decide +kernel, rfl, by decide +kernel, by decide +kernel⟩
theorem pr_doors {C p f : Addr} {rest : List Value} {oc : Value} {od an : Option Addr} {sl : Array (Option Value)} {kV dc pm cd ct : Value} (cl : Cls K C) (no : NoAttr K C "own_doors")
    (a : PySem.W.findIn K (.ref C) "doors" = some (some (.ref p))) (ge : PySem.W.specialIn K (.ref p) "__get__" = some (some (.builtin "property.__get__"))) (tk : PySem.W.takesIn K (.ref p) = some true) (re : PySem.W.recIn K p "property" = some (.ref f :: rest))
    (l : K.lookup f = some ⟨oc, od, .func (PySem.W.fnOf "doors" "House.doors" (defArgs sH_doors) (defBody sH_doors) (defScope sH_doors) .none kV dc pm an cd ct), sl⟩) (c : PySem.W.codeIn K cd "House.doors" = true) (k : PySem.W.keepIn K (.ref f) = true) : Nonempty (PrAt K mg C "doors" "own_doors") :=
  ⟨⟨p, f, _, ⟨a, ge, tk, ⟨rest, re⟩⟩, fun {P w base} => fn_getter l c scG_doors rfl rfl cl no, (fun_mk (st := sH_doors) l c k).binds (ps := ["self"]) fun _ _ _ _ _ _ us hl => match us, hl with | [_], _ => rfl⟩⟩
theorem scG_rooms : FnScope ["self"] ["self"] (defScope sH_rooms) := ⟨rfl, rfl, rfl, by decide +kernel, rfl, by decide +kernel, by decide +kernel⟩
theorem pr_rooms {C p f : Addr} {rest : List Value} {oc : Value} {od an : Option Addr} {sl : Array (Option Value)} {kV dc pm cd ct : Value} (cl : Cls K C) (no : NoAttr K C "own_rooms")
    (a : PySem.W.findIn K (.ref C) "rooms" = some (some (.ref p))) (ge : PySem.W.specialIn K (.ref p) "__get__" = some (some (.builtin "property.__get__"))) (tk : PySem.W.takesIn K (.ref p) = some true) (re : PySem.W.recIn K p "property" = some (.ref f :: rest))
    (l : K.lookup f = some ⟨oc, od, .func (PySem.W.fnOf "rooms" "House.rooms" (defArgs sH_rooms) (defBody sH_rooms) (defScope sH_rooms) .none kV dc pm an cd ct), sl⟩) (c : PySem.W.codeIn K cd "House.rooms" = true) (k : PySem.W.keepIn K (.ref f) = true) : Nonempty (PrAt K mg C "rooms" "own_rooms") :=
  ⟨⟨p, f, _, ⟨a, ge, tk, ⟨rest, re⟩⟩, fun {P w base} => fn_getter l c scG_rooms rfl rfl cl no, (fun_mk (st := sH_rooms) l c k).binds (ps := ["self"]) fun _ _ _ _ _ _ us hl => match us, hl with | [_], _ => rfl⟩⟩
theorem scG_text : FnScope ["self"] ["self"] (defScope sH_text) := ⟨rfl, rfl, rfl, by decide +kernel, rfl, by decide +kernel, by decide +kernel⟩
theorem pr_text {C p f : Addr} {rest : List Value} {oc : Value} {od an : Option Addr} {sl : Array (Option Value)} {kV dc pm cd ct : Value} (cl : Cls K C) (no : NoAttr K C "own_text")
    (a : PySem.W.findIn K (.ref C) "text" = some (some (.ref p))) (ge : PySem.W.specialIn K (.ref p) "__get__" = some (some (.builtin "property.__get__"))) (tk : PySem.W.takesIn K (.ref p) = some true) (re : PySem.W.recIn K p "property" = some (.ref f :: rest))
    (l : K.lookup f = some ⟨oc, od, .func (PySem.W.fnOf "text" "House.text" (defArgs sH_text) (defBody sH_text) (defScope sH_text) .none kV dc pm an cd ct), sl⟩) (c : PySem.W.codeIn K cd "House.text" = true) (k : PySem.W.keepIn K (.ref f) = true) : Nonempty (PrAt K mg C "text" "own_text") :=
  ⟨⟨p, f, _, ⟨a, ge, tk, ⟨rest, re⟩⟩, fun {P w base} => fn_getter l c scG_text rfl rfl cl no, (fun_mk (st := sH_text) l c k).binds (ps := ["self"]) fun _ _ _ _ _ _ us hl => match us, hl with | [_], _ => rfl⟩⟩
theorem cls_mk {C : Addr} (pg : PySem.W.plainGet K C Str.empty = true) (hd : PySem.W.hasDictIn K C = true) (po : PySem.W.plainOver K C = true) (sa : PySem.W.findIn K (.ref C) "__setattr__" = some (some (.builtin "object.__setattr__"))) : Cls K C := ⟨pg, hd, po, sa⟩
theorem glo_mk {x : Str} {C : Addr} (X : K.In h) (G : h.Ns mainGlobals mg) (a : PySem.W.nsIn K mainGlobals x = some (some (.ref C))) : ∃ C, PySem.W.nsIn K mainGlobals x = some (some (.ref C)) ∧ mg x = some (.ref C) := ⟨C, a, PySem.W.mg_of X G a⟩
theorem str_mk {x z : Str} {t : Tok} (X : K.In h) (G : h.Ns mainGlobals mg) (a : PySem.W.nsIn K mainGlobals x = some (some (.str z t))) : ∃ t, mg x = some (.str z t) := ⟨t, PySem.W.mg_of X G a⟩
theorem int_mk {x : Str} {z : Int} {t : Tok} (X : K.In h) (G : h.Ns mainGlobals mg) (a : PySem.W.nsIn K mainGlobals x = some (some (.int z t))) : ∃ t, mg x = some (.int z t) := ⟨t, PySem.W.mg_of X G a⟩
end
theorem end_mk {K : PySem.W.Frag} {h : Heap} {mg : Str → Option Value} {P : Program} {w : World} {fa C CR : Addr} (X : K.In h) (G : h.Ns mainGlobals mg) (hfa : mg "law" = some (.ref fa))
    (f_is_name : Nonempty (Fd K mg "is_name" s_is_name))
    (f_check_house : Nonempty (Fd K mg "check_house" s_check_house))
    (f_check_room : Nonempty (Fd K mg "check_room" s_check_room))
    (f_is_lot_of : Nonempty (Fd K mg "is_lot_of" s_is_lot_of))
    (f_check_lot : Nonempty (Fd K mg "check_lot" s_check_lot))
    (f_is_lot : Nonempty (Fd K mg "is_lot" s_is_lot))
    (f_bits_of : Nonempty (Fd K mg "bits_of" s_bits_of))
    (f_lot_of : Nonempty (Fd K mg "lot_of" s_lot_of))
    (f_near_of : Nonempty (Fd K mg "near_of" s_near_of))
    (f_around : Nonempty (Fd K mg "around" s_around))
    (f_edge_of : Nonempty (Fd K mg "edge_of" s_edge_of))
    (f_part_from : Nonempty (Fd K mg "part_from" s_part_from))
    (f_parts_of : Nonempty (Fd K mg "parts_of" s_parts_of))
    (f_parts : Nonempty (Fd K mg "parts" s_parts))
    (f_is_joined : Nonempty (Fd K mg "is_joined" s_is_joined))
    (f_beside : Nonempty (Fd K mg "beside" s_beside))
    (f_rows_from : Nonempty (Fd K mg "rows_from" s_rows_from))
    (f_way : Nonempty (Fd K mg "way" s_way))
    (f_is_row_of : Nonempty (Fd K mg "is_row_of" s_is_row_of))
    (f_shows_way : Nonempty (Fd K mg "shows_way" s_shows_way))
    (f_has_door : Nonempty (Fd K mg "has_door" s_has_door))
    (f__law_pot : Nonempty (Fd K mg "_law_pot" s__law_pot))
    (f__law_take : Nonempty (Fd K mg "_law_take" s__law_take))
    (f__law_of : Nonempty (Fd K mg "_law_of" s__law_of))
    (f__law_cells : Nonempty (Fd K mg "_law_cells" s__law_cells))
    (f__law_some : Nonempty (Fd K mg "_law_some" s__law_some))
    (f__law_name : Nonempty (Fd K mg "_law_name" s__law_name))
    (f__law_names : Nonempty (Fd K mg "_law_names" s__law_names))
    (f__law_house : Nonempty (Fd K mg "_law_house" s__law_house))
    (f__law_text : Nonempty (Fd K mg "_law_text" s__law_text))
    (f__law_near : Nonempty (Fd K mg "_law_near" s__law_near))
    (f__law_parts : Nonempty (Fd K mg "_law_parts" s__law_parts))
    (f__law_lot : Nonempty (Fd K mg "_law_lot" s__law_lot))
    (f__law_bent : Nonempty (Fd K mg "_law_bent" s__law_bent))
    (f__law_far : Nonempty (Fd K mg "_law_far" s__law_far))
    (f__law_is_way : Nonempty (Fd K mg "_law_is_way" s__law_is_way))
    (f__law_right : Nonempty (Fd K mg "_law_right" s__law_right))
    (f_law : Nonempty (Fd K mg "law" s_law))
    (n_abs : PySem.W.nsIn K mainGlobals "abs" = some none)
    (n_all : PySem.W.nsIn K mainGlobals "all" = some none)
    (n_any : PySem.W.nsIn K mainGlobals "any" = some none)
    (n_enumerate : PySem.W.nsIn K mainGlobals "enumerate" = some none)
    (n_int : PySem.W.nsIn K mainGlobals "int" = some none)
    (n_isinstance : PySem.W.nsIn K mainGlobals "isinstance" = some none)
    (n_len : PySem.W.nsIn K mainGlobals "len" = some none)
    (n_list : PySem.W.nsIn K mainGlobals "list" = some none)
    (n_max : PySem.W.nsIn K mainGlobals "max" = some none)
    (n_min : PySem.W.nsIn K mainGlobals "min" = some none)
    (n_range : PySem.W.nsIn K mainGlobals "range" = some none)
    (n_repr : PySem.W.nsIn K mainGlobals "repr" = some none)
    (n_sorted : PySem.W.nsIn K mainGlobals "sorted" = some none)
    (n_str : PySem.W.nsIn K mainGlobals "str" = some none)
    (n_sum : PySem.W.nsIn K mainGlobals "sum" = some none)
    (n_tuple : PySem.W.nsIn K mainGlobals "tuple" = some none)
    (n_zip : PySem.W.nsIn K mainGlobals "zip" = some none)
    (c_FIGURES : ∃ t, mg "FIGURES" = some (.str "0123456789" t))
    (c_LETTERS : ∃ t, mg "LETTERS" = some (.str "abcdefghijklmnopqrstuvwxyz" t))
    (c_MOST_SIGNS : ∃ t, mg "MOST_SIGNS" = some (.int 8 t))
    (c_DOOR : ∃ t, mg "DOOR" = some (.str "door" t))
    (c_MOST_DOORS : ∃ t, mg "MOST_DOORS" = some (.int 60 t))
    (c_ROOM : ∃ t, mg "ROOM" = some (.str "room" t))
    (c_MOST_ROOMS : ∃ t, mg "MOST_ROOMS" = some (.int 16 t))
    (aC : PySem.W.nsIn K mainGlobals "House" = some (some (.ref C))) (clC : Cls K C) (noC_text : NoAttr K C "own_text") (noC_rooms : NoAttr K C "own_rooms") (noC_doors : NoAttr K C "own_doors")
    (icC1 : PySem.W.findIn K (.ref C) "__class__" = some (some (.builtin "object.__class__"))) (icC2 : PySem.W.specialIn K (.builtin "object.__class__") "__get__" = some (some (.builtin "getset_descriptor.__get__"))) (icC3 : PySem.W.takesIn K (.builtin "object.__class__") = some true) (icC4 : PySem.W.mroIn K C (.type "object") = some true)
    (prC_doors : Cls K C → NoAttr K C "own_doors" → Nonempty (PrAt K mg C "doors" "own_doors")) (prC_rooms : Cls K C → NoAttr K C "own_rooms" → Nonempty (PrAt K mg C "rooms" "own_rooms")) (prC_text : Cls K C → NoAttr K C "own_text" → Nonempty (PrAt K mg C "text" "own_text"))
    (mkC : PySem.W.makesIn K C = true) (kpC : PySem.W.keepIn K (.ref C) = true) (inC : Nonempty (MdAt K C "__init__" "House.__init__" sH_init))
    (aR : PySem.W.nsIn K mainGlobals "Reader" = some (some (.ref CR))) (clR : Cls K CR) (noR_rooms : NoAttr K CR "own_rooms") (noR_doors : NoAttr K CR "own_doors")
    (mkR : PySem.W.makesIn K CR = true) (kpR : PySem.W.keepIn K (.ref CR) = true) (inR : Nonempty (MdAt K CR "__init__" "Reader.__init__" sR_init)) (tkR : Nonempty (MdAt K CR "takes" "Reader.takes" sR_takes)) (rmR : Nonempty (MdAt K CR "takes_room" "Reader.takes_room" sR_room)) (tdR : Nonempty (MdAt K CR "told_doors" "Reader.told_doors" sR_told)) :
    ∃ fd : FuncData, (∀ (s : Shared) (u : Value), BindsTo s fd ⟨[u], []⟩ [("script", u)]) ∧ ∀ b : Heap, K.In b → b.Ns mainGlobals mg → FnG P w K mg b 14 fa fd ["script"] (spL K [.fz] spLaw) := by
  obtain ⟨f_is_name⟩ := f_is_name
  obtain ⟨f_check_house⟩ := f_check_house
  obtain ⟨f_check_room⟩ := f_check_room
  obtain ⟨f_is_lot_of⟩ := f_is_lot_of
  obtain ⟨f_check_lot⟩ := f_check_lot
  obtain ⟨f_is_lot⟩ := f_is_lot
  obtain ⟨f_bits_of⟩ := f_bits_of
  obtain ⟨f_lot_of⟩ := f_lot_of
  obtain ⟨f_near_of⟩ := f_near_of
  obtain ⟨f_around⟩ := f_around
  obtain ⟨f_edge_of⟩ := f_edge_of
  obtain ⟨f_part_from⟩ := f_part_from
  obtain ⟨f_parts_of⟩ := f_parts_of
  obtain ⟨f_parts⟩ := f_parts
  obtain ⟨f_is_joined⟩ := f_is_joined
  obtain ⟨f_beside⟩ := f_beside
  obtain ⟨f_rows_from⟩ := f_rows_from
  obtain ⟨f_way⟩ := f_way
  obtain ⟨f_is_row_of⟩ := f_is_row_of
  obtain ⟨f_shows_way⟩ := f_shows_way
  obtain ⟨f_has_door⟩ := f_has_door
  obtain ⟨f__law_pot⟩ := f__law_pot
  obtain ⟨f__law_take⟩ := f__law_take
  obtain ⟨f__law_of⟩ := f__law_of
  obtain ⟨f__law_cells⟩ := f__law_cells
  obtain ⟨f__law_some⟩ := f__law_some
  obtain ⟨f__law_name⟩ := f__law_name
  obtain ⟨f__law_names⟩ := f__law_names
  obtain ⟨f__law_house⟩ := f__law_house
  obtain ⟨f__law_text⟩ := f__law_text
  obtain ⟨f__law_near⟩ := f__law_near
  obtain ⟨f__law_parts⟩ := f__law_parts
  obtain ⟨f__law_lot⟩ := f__law_lot
  obtain ⟨f__law_bent⟩ := f__law_bent
  obtain ⟨f__law_far⟩ := f__law_far
  obtain ⟨f__law_is_way⟩ := f__law_is_way
  obtain ⟨f__law_right⟩ := f__law_right
  obtain ⟨f_law⟩ := f_law
  obtain ⟨pd⟩ := prC_doors clC noC_doors
  obtain ⟨pr⟩ := prC_rooms clC noC_rooms
  obtain ⟨pt⟩ := prC_text clC noC_text
  obtain ⟨hi⟩ := inC
  obtain ⟨ri⟩ := inR
  obtain ⟨rt⟩ := tkR
  obtain ⟨rr⟩ := rmR
  obtain ⟨rd⟩ := tdR
  let T : Txt K mg := ⟨C, clC, PySem.W.mg_of X G aC, ⟨clC, icC1, icC2, icC3, icC4⟩, pd.p, pd.g, pd.fd, pd.po, pd.ok, pd.bd, pr.p, pr.g, pr.fd, pr.po, pr.ok, pr.bd, pt.p, pt.g, pt.fd, pt.po, pt.ok, pt.bd, CR, clR, PySem.W.mg_of X G aR, noR_rooms, noR_doors, ri.d, rt.d, rr.d, rd.d, hi.d, ⟨mkR, ri.m.at_, ri.m.fn, kpR⟩, ⟨mkC, hi.m.at_, hi.m.fn, kpC⟩, rt.m, rr.m, rd.m, noC_text, noC_rooms, noC_doors, f_is_name, f_check_house, f_check_room, f_is_lot_of, f_check_lot, f_is_lot, f_bits_of, f_lot_of, f_near_of, f_around, f_edge_of, f_part_from, f_parts_of, f_parts, f_is_joined, f_beside, f_rows_from, f_way, f_is_row_of, f_shows_way, f_has_door, f__law_pot, f__law_take, f__law_of, f__law_cells, f__law_some, f__law_name, f__law_names, f__law_house, f__law_text, f__law_near, f__law_parts, f__law_lot, f__law_bent, f__law_far, f__law_is_way, f__law_right, f_law, PySem.W.mg_none_of X G n_abs, PySem.W.mg_none_of X G n_all, PySem.W.mg_none_of X G n_any, PySem.W.mg_none_of X G n_enumerate, PySem.W.mg_none_of X G n_int, PySem.W.mg_none_of X G n_isinstance, PySem.W.mg_none_of X G n_len, PySem.W.mg_none_of X G n_list, PySem.W.mg_none_of X G n_max, PySem.W.mg_none_of X G n_min, PySem.W.mg_none_of X G n_range, PySem.W.mg_none_of X G n_repr, PySem.W.mg_none_of X G n_sorted, PySem.W.mg_none_of X G n_str, PySem.W.mg_none_of X G n_sum, PySem.W.mg_none_of X G n_tuple, PySem.W.mg_none_of X G n_zip, c_FIGURES, c_LETTERS, c_MOST_SIGNS, c_DOOR, c_MOST_DOORS, c_ROOM, c_MOST_ROOMS⟩
  have e := hfa.symm.trans T.f_law.m
  obtain rfl : fa = T.f_law.f := by
    injection e with e
    injection e
  exact ⟨T.f_law.fd, fun s u => .of_eq ((bd_of T.f_law.T fun _ _ _ _ _ _ us ws h1 h2 => match us, ws, h1, h2 with | [_], [], _, _ => rfl : Bd T.f_law.fd ["script"] 1 []) [u] [] rfl rfl), fun b _ _ => law_ok T⟩
end K01

set_option Elab.async false
set_option linter.all false
set_option maxRecDepth 100000
open PySem PySem.W PyProof.Rows
set_option maxHeartbeats 0 in
theorem PySem.Challenge.cw_nowheretohide_k01_whole_parts_and_ways_holds : PySem.Challenge.rw_nowheretohide_k01_whole_parts_and_ways.Holds := by
  w_on; o_law; k_head; (case hw => w_witness2)
  k_fill
  refine Pu.walk_go (ms := K01.spLaw) (k := 14) (n := 63) (x := "script") (l := PySem.Challenge.rw_nowheretohide_k01_whole_parts_and_ways) rfl (by decide) rfl ⟨rfl, by decide, by decide⟩ (fun w h Y => PySem.W.kIn_of Y) ?F (fun zs _ Q E q => ⟨zs, rfl, q⟩)
  case F =>
    intro w mg fa h KX G hmg
    refine' K01.end_mk KX G hmg ?f_is_name ?f_check_house ?f_check_room ?f_is_lot_of ?f_check_lot ?f_is_lot ?f_bits_of ?f_lot_of ?f_near_of ?f_around ?f_edge_of ?f_part_from ?f_parts_of ?f_parts ?f_is_joined ?f_beside ?f_rows_from ?f_way ?f_is_row_of ?f_shows_way ?f_has_door ?f__law_pot ?f__law_take ?f__law_of ?f__law_cells ?f__law_some ?f__law_name ?f__law_names ?f__law_house ?f__law_text ?f__law_near ?f__law_parts ?f__law_lot ?f__law_bent ?f__law_far ?f__law_is_way ?f__law_right ?f_law ?n_abs ?n_all ?n_any ?n_enumerate ?n_int ?n_isinstance ?n_len ?n_list ?n_max ?n_min ?n_range ?n_repr ?n_sorted ?n_str ?n_sum ?n_tuple ?n_zip ?c_FIGURES ?c_LETTERS ?c_MOST_SIGNS ?c_DOOR ?c_MOST_DOORS ?c_ROOM ?c_MOST_ROOMS ?aC ?clC ?noC_text ?noC_rooms ?noC_doors ?icC1 ?icC2 ?icC3 ?icC4 ?prC_doors ?prC_rooms ?prC_text ?mkC ?kpC ?inC ?aR ?clR ?noR_rooms ?noR_doors ?mkR ?kpR ?inR ?tkR ?rmR ?tdR
    case f_is_name => refine' K01.fd_mk KX G ?a ?l ?c ?k; (case a => k_is); (case l => k_is); (case c => k_is); (case k => k_is)
    case f_check_house => refine' K01.fd_mk KX G ?a ?l ?c ?k; (case a => k_is); (case l => k_is); (case c => k_is); (case k => k_is)
    case f_check_room => refine' K01.fd_mk KX G ?a ?l ?c ?k; (case a => k_is); (case l => k_is); (case c => k_is); (case k => k_is)
    case f_is_lot_of => refine' K01.fd_mk KX G ?a ?l ?c ?k; (case a => k_is); (case l => k_is); (case c => k_is); (case k => k_is)
    case f_check_lot => refine' K01.fd_mk KX G ?a ?l ?c ?k; (case a => k_is); (case l => k_is); (case c => k_is); (case k => k_is)
    case f_is_lot => refine' K01.fd_mk KX G ?a ?l ?c ?k; (case a => k_is); (case l => k_is); (case c => k_is); (case k => k_is)
    case f_bits_of => refine' K01.fd_mk KX G ?a ?l ?c ?k; (case a => k_is); (case l => k_is); (case c => k_is); (case k => k_is)
    case f_lot_of => refine' K01.fd_mk KX G ?a ?l ?c ?k; (case a => k_is); (case l => k_is); (case c => k_is); (case k => k_is)
    case f_near_of => refine' K01.fd_mk KX G ?a ?l ?c ?k; (case a => k_is); (case l => k_is); (case c => k_is); (case k => k_is)
    case f_around => refine' K01.fd_mk KX G ?a ?l ?c ?k; (case a => k_is); (case l => k_is); (case c => k_is); (case k => k_is)
    case f_edge_of => refine' K01.fd_mk KX G ?a ?l ?c ?k; (case a => k_is); (case l => k_is); (case c => k_is); (case k => k_is)
    case f_part_from => refine' K01.fd_mk KX G ?a ?l ?c ?k; (case a => k_is); (case l => k_is); (case c => k_is); (case k => k_is)
    case f_parts_of => refine' K01.fd_mk KX G ?a ?l ?c ?k; (case a => k_is); (case l => k_is); (case c => k_is); (case k => k_is)
    case f_parts => refine' K01.fd_mk KX G ?a ?l ?c ?k; (case a => k_is); (case l => k_is); (case c => k_is); (case k => k_is)
    case f_is_joined => refine' K01.fd_mk KX G ?a ?l ?c ?k; (case a => k_is); (case l => k_is); (case c => k_is); (case k => k_is)
    case f_beside => refine' K01.fd_mk KX G ?a ?l ?c ?k; (case a => k_is); (case l => k_is); (case c => k_is); (case k => k_is)
    case f_rows_from => refine' K01.fd_mk KX G ?a ?l ?c ?k; (case a => k_is); (case l => k_is); (case c => k_is); (case k => k_is)
    case f_way => refine' K01.fd_mk KX G ?a ?l ?c ?k; (case a => k_is); (case l => k_is); (case c => k_is); (case k => k_is)
    case f_is_row_of => refine' K01.fd_mk KX G ?a ?l ?c ?k; (case a => k_is); (case l => k_is); (case c => k_is); (case k => k_is)
    case f_shows_way => refine' K01.fd_mk KX G ?a ?l ?c ?k; (case a => k_is); (case l => k_is); (case c => k_is); (case k => k_is)
    case f_has_door => refine' K01.fd_mk KX G ?a ?l ?c ?k; (case a => k_is); (case l => k_is); (case c => k_is); (case k => k_is)
    case f__law_pot => refine' K01.fd_mk KX G ?a ?l ?c ?k; (case a => k_is); (case l => k_is); (case c => k_is); (case k => k_is)
    case f__law_take => refine' K01.fd_mk KX G ?a ?l ?c ?k; (case a => k_is); (case l => k_is); (case c => k_is); (case k => k_is)
    case f__law_of => refine' K01.fd_mk KX G ?a ?l ?c ?k; (case a => k_is); (case l => k_is); (case c => k_is); (case k => k_is)
    case f__law_cells => refine' K01.fd_mk KX G ?a ?l ?c ?k; (case a => k_is); (case l => k_is); (case c => k_is); (case k => k_is)
    case f__law_some => refine' K01.fd_mk KX G ?a ?l ?c ?k; (case a => k_is); (case l => k_is); (case c => k_is); (case k => k_is)
    case f__law_name => refine' K01.fd_mk KX G ?a ?l ?c ?k; (case a => k_is); (case l => k_is); (case c => k_is); (case k => k_is)
    case f__law_names => refine' K01.fd_mk KX G ?a ?l ?c ?k; (case a => k_is); (case l => k_is); (case c => k_is); (case k => k_is)
    case f__law_house => refine' K01.fd_mk KX G ?a ?l ?c ?k; (case a => k_is); (case l => k_is); (case c => k_is); (case k => k_is)
    case f__law_text => refine' K01.fd_mk KX G ?a ?l ?c ?k; (case a => k_is); (case l => k_is); (case c => k_is); (case k => k_is)
    case f__law_near => refine' K01.fd_mk KX G ?a ?l ?c ?k; (case a => k_is); (case l => k_is); (case c => k_is); (case k => k_is)
    case f__law_parts => refine' K01.fd_mk KX G ?a ?l ?c ?k; (case a => k_is); (case l => k_is); (case c => k_is); (case k => k_is)
    case f__law_lot => refine' K01.fd_mk KX G ?a ?l ?c ?k; (case a => k_is); (case l => k_is); (case c => k_is); (case k => k_is)
    case f__law_bent => refine' K01.fd_mk KX G ?a ?l ?c ?k; (case a => k_is); (case l => k_is); (case c => k_is); (case k => k_is)
    case f__law_far => refine' K01.fd_mk KX G ?a ?l ?c ?k; (case a => k_is); (case l => k_is); (case c => k_is); (case k => k_is)
    case f__law_is_way => refine' K01.fd_mk KX G ?a ?l ?c ?k; (case a => k_is); (case l => k_is); (case c => k_is); (case k => k_is)
    case f__law_right => refine' K01.fd_mk KX G ?a ?l ?c ?k; (case a => k_is); (case l => k_is); (case c => k_is); (case k => k_is)
    case f_law => refine' K01.fd_mk KX G ?a ?l ?c ?k; (case a => k_is); (case l => k_is); (case c => k_is); (case k => k_is)
    case n_abs => k_is
    case n_all => k_is
    case n_any => k_is
    case n_enumerate => k_is
    case n_int => k_is
    case n_isinstance => k_is
    case n_len => k_is
    case n_list => k_is
    case n_max => k_is
    case n_min => k_is
    case n_range => k_is
    case n_repr => k_is
    case n_sorted => k_is
    case n_str => k_is
    case n_sum => k_is
    case n_tuple => k_is
    case n_zip => k_is
    case c_FIGURES => refine' K01.str_mk KX G ?a; (case a => k_is)
    case c_LETTERS => refine' K01.str_mk KX G ?a; (case a => k_is)
    case c_MOST_SIGNS => refine' K01.int_mk KX G ?a; (case a => k_is)
    case c_DOOR => refine' K01.str_mk KX G ?a; (case a => k_is)
    case c_MOST_DOORS => refine' K01.int_mk KX G ?a; (case a => k_is)
    case c_ROOM => refine' K01.str_mk KX G ?a; (case a => k_is)
    case c_MOST_ROOMS => refine' K01.int_mk KX G ?a; (case a => k_is)
    case aC => k_is
    case clC => refine' K01.cls_mk ?y1 ?y2 ?y3 ?y4; (case y1 => k_is); (case y2 => k_is); (case y3 => k_is); (case y4 => k_is)
    case noC_text => unfold L2.NoAttr; k_is
    case noC_rooms => unfold L2.NoAttr; k_is
    case noC_doors => unfold L2.NoAttr; k_is
    case icC1 => k_is
    case icC2 => k_is
    case icC3 => k_is
    case icC4 => k_is
    case prC_doors => intro cl no; refine' K01.pr_doors cl no ?z1 ?z2 ?z3 ?z4 ?z5 ?z6 ?z7; (case z1 => k_is); (case z2 => k_is); (case z3 => k_is); (case z4 => k_is); (case z5 => k_is); (case z6 => k_is); (case z7 => k_is)
    case prC_rooms => intro cl no; refine' K01.pr_rooms cl no ?z1 ?z2 ?z3 ?z4 ?z5 ?z6 ?z7; (case z1 => k_is); (case z2 => k_is); (case z3 => k_is); (case z4 => k_is); (case z5 => k_is); (case z6 => k_is); (case z7 => k_is)
    case prC_text => intro cl no; refine' K01.pr_text cl no ?z1 ?z2 ?z3 ?z4 ?z5 ?z6 ?z7; (case z1 => k_is); (case z2 => k_is); (case z3 => k_is); (case z4 => k_is); (case z5 => k_is); (case z6 => k_is); (case z7 => k_is)
    case mkC => k_is
    case kpC => k_is
    case inC => refine' K01.md_mk ?a ?i ?l ?c ?k; (case a => k_is); (case i => k_is); (case l => k_is); (case c => k_is); (case k => k_is)
    case aR => k_is
    case clR => refine' K01.cls_mk ?y1 ?y2 ?y3 ?y4; (case y1 => k_is); (case y2 => k_is); (case y3 => k_is); (case y4 => k_is)
    case noR_rooms => unfold L2.NoAttr; k_is
    case noR_doors => unfold L2.NoAttr; k_is
    case mkR => k_is
    case kpR => k_is
    case inR => refine' K01.md_mk ?a ?i ?l ?c ?k; (case a => k_is); (case i => k_is); (case l => k_is); (case c => k_is); (case k => k_is)
    case tkR => refine' K01.md_mk ?a ?i ?l ?c ?k; (case a => k_is); (case i => k_is); (case l => k_is); (case c => k_is); (case k => k_is)
    case rmR => refine' K01.md_mk ?a ?i ?l ?c ?k; (case a => k_is); (case i => k_is); (case l => k_is); (case c => k_is); (case k => k_is)
    case tdR => refine' K01.md_mk ?a ?i ?l ?c ?k; (case a => k_is); (case i => k_is); (case l => k_is); (case c => k_is); (case k => k_is)

