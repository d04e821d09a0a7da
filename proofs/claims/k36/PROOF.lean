import PyProof.Rows.All
import Wide.All
import OpenK.AllK
import Wide.FinOn
import HandS.ForMost
import HandS.ForExc
import HandS.Style
import HandS.Property
import HandS.Deep
import HandS.TupAny
import HandS.Dict
import HandS.Conv
import HandS.Text
import HandS.Strs
import HandS.IsInst
import HandS.Iter
import KE.GoesMore
import KE.GoesEnum
import HandS.Small
import HandS.Zip
import HandS.TryOnly
import HandS.SetFor
import KE.SortData
import PyProof.ReprRoads
import KE.KDictPairs
import KE.KDictZip
import HandS.Words
import PySem.Challenge.RW_nowheretohide_k36_whole_where_they_may_b
set_option Elab.async false
set_option linter.all false
set_option maxRecDepth 100000
/-! Pu: programs over plain data. Values are trees; lists that are changed stand in slots of their own; a program is what it asks (a predicate transformer), no heap in sight. -/
namespace Pu
open PySem

abbrev Ky := Sum Int Str

/-- a value, as a tree -/
inductive D where
  | non
  | bl (b : Bool)
  | int (i : Int)
  | str (x : Str)
  | tup (xs : List D)
  | lst (xs : List D)
  | dic (ks : List Ky) (xs : List D)
  | ins (C : Nat) (fs : List Str) (xs : List D)
  | scr (ns : List Int)
  | fn (a : Nat)
  | ttp (xs : List D)
  | at (a : Nat) (d : D)
  deriving Inhabited

/-- what a slot holds: nothing that is known; a value that stays as it is; a list or dict of the def's own; one that the caller lent; a list of own lists -/
inductive Sl where
  | un
  | fz (d : D)
  | ow (d : D)
  | io (k : Nat) (d : D)
  | oo (ds : List (List D))
  deriving Inhabited

abbrev En := List Sl

@[simp] def Sl.dat : Sl → Option D
  | .fz d => some d
  | .ow d => some d
  | .io _ d => some d
  | .oo _ => none
  | .un => none

/-- what is wanted of an error: its class, its value, the slots -/
abbrev EX := Nat → D → En → Prop
abbrev noEX : EX := fun _ _ _ => False
abbrev WE := EX → En → (Sl → En → Prop) → Prop
abbrev WT := EX → En → (Bool → En → Prop) → Prop
/-- an operand that is only read: a value, or what stands in a slot by then -/
inductive Rr where
  | val (d : D)
  | at (i : Nat)
abbrev WR := EX → En → (Rr → En → Prop) → Prop
abbrev WRs := EX → En → (List Rr → En → Prop) → Prop
@[simp] def look (ρ : En) : Rr → Option D
  | .val d => some d
  | .at i => (ρ[i]?).bind Sl.dat
@[simp] def looks (ρ : En) : List Rr → Option (List D)
  | [] => some []
  | r :: rs => match look ρ r, looks ρ rs with
    | some d, some ds => some (d :: ds)
    | _, _ => none
structure EndD where
  nx : En → Prop
  rt : Sl → En → Prop
  bk : En → Prop := fun _ => False
  ct : En → Prop := fun _ => False
  ex : EX := fun _ _ _ => False
abbrev WS := EndD → En → Prop
/-- where a value goes -/
abbrev WG := Sl → En → (En → Prop) → Prop
/-- the items that a loop walks -/
abbrev WI := EX → En → (List D → En → Prop) → Prop

/-! ### expressions -/
@[simp] def wC (d : D) : WE := fun _ ρ Q => Q (.fz d) ρ
/-- a name whose value is kept somewhere: what stood there as one's own is so no more -/
@[simp] def wN (i : Nat) : WE := fun _ ρ Q => match ρ[i]? with
  | some (.fz d) => Q (.fz d) ρ
  | some (.ow d) => Q (.fz d) (ρ.set i (.fz d))
  | some (.oo ds) => Q (.fz (.lst (ds.map .lst))) (ρ.set i (.fz (.lst (ds.map .lst))))
  | _ => False
@[simp] def rN (i : Nat) : WR := fun _ ρ Q => match ρ[i]? with
  | some (.fz _) => Q (.at i) ρ
  | some (.ow _) => Q (.at i) ρ
  | some (.io _ _) => Q (.at i) ρ
  | _ => False
/-- a value as data, whatever is own of it being own no more -/
@[simp] def Sl.fr (Q : D → Prop) : Sl → Prop
  | .fz d => Q d
  | .ow d => Q d
  | _ => False
@[simp] def rE (w : WE) : WR := fun E ρ Q => w E ρ fun s ρ' => s.fr fun d => Q (.val d) ρ'
@[simp] def with1 (o : Option D) (k : D → Prop) : Prop := match o with
  | some x => k x
  | none => False
@[simp] def with2 (o p : Option D) (k : D → D → Prop) : Prop := match o with
  | some x => (match p with
    | some y => k x y
    | none => False)
  | none => False
@[simp] def withN (o : Option (List D)) (k : List D → Prop) : Prop := match o with
  | some x => k x
  | none => False
abbrev K1 := D → (Sl → Prop) → Prop
abbrev K2 := D → D → (Sl → Prop) → Prop
abbrev KN := List D → (Sl → Prop) → Prop
@[simp] def wOp (k : K2) (a b : WR) : WE := fun E ρ Q => a E ρ fun r1 ρ1 => b E ρ1 fun r2 ρ2 => with2 (look ρ2 r1) (look ρ2 r2) fun x y => k x y fun s => Q s ρ2
@[simp] def wUn (k : K1) (a : WR) : WE := fun E ρ Q => a E ρ fun r1 ρ1 => with1 (look ρ1 r1) fun x => k x fun s => Q s ρ1
@[simp] def rsN : WRs := fun _ ρ Q => Q [] ρ
@[simp] def rsC (a : WR) (b : WRs) : WRs := fun E ρ Q => a E ρ fun r ρ1 => b E ρ1 fun rs ρ2 => Q (r :: rs) ρ2
@[simp] def wB (k : KN) (as : WRs) : WE := fun E ρ Q => as E ρ fun rs ρ1 => withN (looks ρ1 rs) fun ds => k ds fun s => Q s ρ1
/-- o.m(..) where nothing is changed -/
@[simp] def wM (k : D → KN) (o : WR) (as : WRs) : WE := fun E ρ Q => o E ρ fun r ρ1 => as E ρ1 fun rs ρ2 => with1 (look ρ2 r) fun x => withN (looks ρ2 rs) fun ds => k x ds fun s => Q s ρ2
/-- values that are kept, from the left -/
abbrev WVs := EX → En → (List D → En → Prop) → Prop
@[simp] def vsN : WVs := fun _ ρ Q => Q [] ρ
@[simp] def vsC (a : WE) (b : WVs) : WVs := fun E ρ Q => a E ρ fun s ρ1 => s.fr fun d => b E ρ1 fun ds ρ2 => Q (d :: ds) ρ2
@[simp] def wTup (a : WVs) : WE := fun E ρ Q => a E ρ fun ds ρ1 => ds.length ≤ 1000 ∧ Q (.fz (.tup ds)) ρ1
@[simp] def wLst (a : WVs) : WE := fun E ρ Q => a E ρ fun ds ρ1 => ds.length ≤ 1000 ∧ Q (.ow (.lst ds)) ρ1

/-! ### tests -/
@[simp] def tV (w : WE) : WT := fun E ρ Q => w E ρ fun s ρ' => match s with
  | .fz (.bl b) => Q b ρ'
  | _ => False
@[simp] def tAnd (a b : WT) : WT := fun E ρ Q => a E ρ fun c ρ1 => if c = true then b E ρ1 Q else Q false ρ1
@[simp] def tOr (a b : WT) : WT := fun E ρ Q => a E ρ fun c ρ1 => if c = true then Q true ρ1 else b E ρ1 Q
@[simp] def tNot (a : WT) : WT := fun E ρ Q => a E ρ fun c ρ1 => Q (!c) ρ1
/-- and, or, not as values (of bools) -/
@[simp] def wAnd (a b : WE) : WE := fun E ρ Q => a E ρ fun s ρ1 => match s with
  | .fz (.bl c) => if c = true then b E ρ1 Q else Q (.fz (.bl false)) ρ1
  | _ => False
@[simp] def wOr (a b : WE) : WE := fun E ρ Q => a E ρ fun s ρ1 => match s with
  | .fz (.bl c) => if c = true then Q (.fz (.bl true)) ρ1 else b E ρ1 Q
  | _ => False
@[simp] def wNot (a : WE) : WE := fun E ρ Q => a E ρ fun s ρ1 => match s with
  | .fz (.bl c) => Q (.fz (.bl (!c))) ρ1
  | _ => False
@[simp] def wIf (t : WT) (a b : WE) : WE := fun E ρ Q => t E ρ fun c ρ1 => if c = true then a E ρ1 Q else b E ρ1 Q

/-! ### statements -/
@[simp] def wPass : WS := fun K ρ => K.nx ρ
@[simp] def wSeq (a b : WS) : WS := fun K ρ => a { K with nx := b K } ρ
@[simp] def wSet (i : Nat) (w : WE) : WS := fun K ρ => w K.ex ρ fun s ρ1 => K.nx (ρ1.set i s)
@[simp] def wAsg (g : WG) (w : WE) : WS := fun K ρ => w K.ex ρ fun s ρ1 => g s ρ1 K.nx
@[simp] def wDrop (w : WE) : WS := fun K ρ => w K.ex ρ fun _ ρ1 => K.nx ρ1
@[simp] def wRet (w : WE) : WS := fun K ρ => w K.ex ρ fun s ρ1 => K.rt s ρ1
@[simp] def wRetN : WS := fun K ρ => K.rt (.fz .non) ρ
@[simp] def wIfS (t : WT) (a b : WS) : WS := fun K ρ => t K.ex ρ fun c ρ1 => if c = true then a K ρ1 else b K ρ1
@[simp] def wBrk : WS := fun K ρ => K.bk ρ
@[simp] def wCnt : WS := fun K ρ => K.ct ρ
@[simp] def wNever : WS := fun _ _ => False
@[simp] def gN (i : Nat) : WG := fun s ρ Q => Q (ρ.set i s)
/-- a tuple of targets: what is taken apart stays as it is -/
abbrev WGs := List D → En → (En → Prop) → Prop
@[simp] def gsN : WGs := fun ds ρ Q => match ds with
  | [] => Q ρ
  | _ :: _ => False
@[simp] def gsC (g : WG) (gs : WGs) : WGs := fun ds ρ Q => match ds with
  | [] => False
  | d :: r => g (.fz d) ρ fun ρ1 => gs r ρ1 Q
def gT (gs : WGs) : WG := fun s ρ Q => match s with
  | .fz (.tup ds) => gs ds ρ Q
  | _ => False
def wFor (wi : WI) (g : WG) (body : WS) : WS := fun K ρ => wi K.ex ρ fun items ρ1 => ∃ W : Nat → En → Prop, W 0 ρ1 ∧
  (∀ i x ρ, items[i]? = some x → W i ρ → g (.fz x) ρ fun ρ2 => body { K with nx := W (i + 1), ct := W (i + 1), bk := K.nx } ρ2) ∧ ∀ ρ, W items.length ρ → K.nx ρ
def wWhile (t : WT) (body : WS) : WS := fun K ρ => ∃ W : Nat → En → Prop, (∃ m, W m ρ) ∧ ∀ m ρ, W m ρ →
  t K.ex ρ fun b ρ1 => if b = true then body { K with nx := fun ρ' => ∃ m', m' < m ∧ W m' ρ', ct := fun ρ' => ∃ m', m' < m ∧ W m' ρ', bk := K.nx } ρ1 else K.nx ρ1
/-- values at hand, own or not, from the left -/
abbrev WHs := EX → En → (List Sl → En → Prop) → Prop
@[simp] def Sl.vl (Q : Prop) : Sl → Prop
  | .fz _ => Q
  | .ow _ => Q
  | _ => False
@[simp] def hsN : WHs := fun _ ρ Q => Q [] ρ
@[simp] def hsC (a : WE) (b : WHs) : WHs := fun E ρ Q => a E ρ fun s ρ1 => s.vl (b E ρ1 fun ss ρ2 => Q (s :: ss) ρ2)
/-- a, b = e, f: all values are there ahead of the stores -/
@[simp] def setAll (ρ : En) : List Nat → List Sl → En
  | i :: is, s :: ss => setAll (ρ.set i s) is ss
  | _, _ => ρ
@[simp] def wPar (is : List Nat) (w : WHs) : WS := fun K ρ => w K.ex ρ fun ss ρ1 => K.nx (setAll ρ1 is ss)

/-! ### comprehensions: vs the slots of its own names -/
@[simp] def wipeE (ρ : En) : List Nat → En
  | [] => ρ
  | v :: vs => (wipeE ρ vs).set v .un
/-- behind the block: its own names' slots as they were, where they were plain -/
@[simp] def Sl.keep : Sl → Sl
  | .fz d => .fz d
  | _ => .un
@[simp] def backE (ρ0 ρ : En) : List Nat → En
  | [] => ρ
  | v :: vs => (backE ρ0 ρ vs).set v ((ρ0[v]?).getD .un).keep
def wLc (wi : WI) (g : WG) (tt : WT) (te : WE) (vs : List Nat) : WE := fun E ρ Q => wi E ρ fun items ρ1 => ∃ W : Nat → List D → En → Prop, W 0 [] (wipeE ρ1 vs) ∧
  (∀ i x acc ρ, items[i]? = some x → W i acc ρ → g (.fz x) ρ fun ρ2 => tt noEX ρ2 fun b ρ3 =>
    if b = true then te noEX ρ3 fun s ρ4 => s.fr fun d => acc.length < sizeLine ∧ W (i + 1) (acc ++ [d]) (wipeE ρ4 vs) else W (i + 1) acc (wipeE ρ3 vs)) ∧
  ∀ acc ρ, W items.length acc ρ → Q (.ow (.lst acc)) (backE ρ1 ρ vs)
@[simp] def tYes : WT := fun _ ρ Q => Q true ρ

/-! ### what a loop walks -/
/-- the items of a list or tuple that stays -/
def iSeq (w : WE) : WI := fun E ρ Q => w E ρ fun s ρ1 => s.fr fun d => match d with
  | .lst ds => Q ds ρ1
  | .tup ds => Q ds ρ1
  | _ => False
def rangeD (a b : Int) : List D := (List.range (b - a).toNat).map fun (k : Nat) => D.int (a + (k : Int))
@[simp] def iRng1 (w : WR) : WI := fun E ρ Q => w E ρ fun r ρ1 => with1 (look ρ1 r) fun d => match d with
  | .int b => (-(2 ^ 62) ≤ b ∧ b < 2 ^ 62) ∧ Q (rangeD 0 b) ρ1
  | _ => False
@[simp] def iRng2 (u w : WR) : WI := fun E ρ Q => u E ρ fun r1 ρ1 => w E ρ1 fun r2 ρ2 => with2 (look ρ2 r1) (look ρ2 r2) fun x y => match x with
  | .int a => (match y with
    | .int b => (-(2 ^ 62) ≤ a ∧ a < 2 ^ 62 ∧ -(2 ^ 62) ≤ b ∧ b < 2 ^ 62) ∧ Q (rangeD a b) ρ2
    | _ => False)
  | _ => False
@[simp] def numbered (k : Nat) : List D → List D
  | [] => []
  | d :: ds => .tup [.int k, d] :: numbered (k + 1) ds
@[simp] def paired : List D → List D → List D
  | d :: ds, e :: es => .tup [d, e] :: paired ds es
  | _, _ => []

/-! ### a def's promise, and calls of it -/
inductive Md where
  | fz
  | io
/-- from the arguments: what is wanted of the value and of what the arguments hold then (of those lent); of an error -/
abbrev DSp := List D → (Sl → List D → Prop) → (Nat → D → List D → Prop) → Prop
/-- an argument of a call: a value, or a slot lent -/
inductive Ar where
  | v (d : D)
  | s (i : Nat)
abbrev WAs := EX → En → (List Ar → En → Prop) → Prop
@[simp] def asN : WAs := fun _ ρ Q => Q [] ρ
@[simp] def asV (w : WE) (r : WAs) : WAs := fun E ρ Q => w E ρ fun s ρ1 => s.fr fun d => r E ρ1 fun as ρ2 => Q (.v d :: as) ρ2
/-- what a lent slot holds -/
@[simp] def lent : Option Sl → Option D
  | some (.ow d) => some d
  | some (.io _ d) => some d
  | _ => none
@[simp] def asS (i : Nat) (r : WAs) : WAs := fun E ρ Q => with1 (lent ρ[i]?) fun _ => r E ρ fun as ρ1 => Q (.s i :: as) ρ1
@[simp] def lentBack (s : Option Sl) (d : D) : Sl := match s with
  | some (.ow _) => .ow d
  | some (.io k _) => .io k d
  | _ => .un
@[simp] def argsD (ρ : En) : List Ar → Option (List D)
  | [] => some []
  | .v d :: r => match argsD ρ r with
    | some ds => some (d :: ds)
    | none => none
  | .s i :: r => match lent ρ[i]? with
    | some d => (match argsD ρ r with
      | some ds => some (d :: ds)
      | none => none)
    | none => none
@[simp] def backD (ρ : En) : List Ar → List D → En
  | .s i :: r, d :: ds => backD (ρ.set i (lentBack ρ[i]? d)) r ds
  | .v _ :: r, _ :: ds => backD ρ r ds
  | _, _ => ρ
/-- the lent slots are unlike -/
def slotsOf : List Ar → List Nat
  | [] => []
  | .v _ :: r => slotsOf r
  | .s i :: r => i :: slotsOf r
def modesOf : List Ar → List Md
  | [] => []
  | .v _ :: r => .fz :: modesOf r
  | .s _ :: r => .io :: modesOf r
@[simp] def wCall (sp : DSp) (as : WAs) : WE := fun E ρ Q => as E ρ fun ars ρ1 => withN (argsD ρ1 ars) fun ds => sp ds (fun s outs => Q s (backD ρ1 ars outs)) fun C d outs => E C d (backD ρ1 ars outs)
/-- a def's slots at its start; k: the place of the first -/
@[simp] def startE (k : Nat) : List Md → List D → Nat → En
  | .fz :: ms, d :: ds, n + 1 => .fz d :: startE (k + 1) ms ds n
  | .io :: ms, d :: ds, n + 1 => .io k d :: startE (k + 1) ms ds n
  | _, _, n => List.replicate n .un
/-- what was lent, at the end: it is to stand where it stood -/
@[simp] def outsE (k : Nat) : List Md → En → Option (List D)
  | .fz :: ms, _ :: ρ => match outsE (k + 1) ms ρ with
    | some r => some (.non :: r)
    | none => none
  | .io :: ms, .io j d :: ρ => if j = k then (match outsE (k + 1) ms ρ with
    | some r => some (d :: r)
    | none => none) else none
  | .io :: _, _ :: _ => none
  | _ :: _, [] => none
  | [], _ => some []
/-- a def's body against its promise -/
def keeps (ms : List Md) (n : Nat) (sp : DSp) (w : WS) : Prop := ∀ ds Q E, ds.length = ms.length → sp ds Q E →
  w { nx := fun ρ => withN (outsE 0 ms ρ) fun outs => Q (.fz .non) outs, rt := fun s ρ => s.vl (withN (outsE 0 ms ρ) fun outs => Q s outs), ex := fun C d ρ => withN (outsE 0 ms ρ) fun outs => E C d outs } (startE 0 ms ds n)
end Pu

set_option Elab.async false
set_option linter.all false
set_option maxRecDepth 100000
/-! Pu, how data stands in the heap: Z, the part that stays; each own list at an address of its own. -/
namespace Pu
open PySem L2

/-! ### pairs -/
section
variable {α β : Type} {F G : α → β → Prop}
theorem pd_len : ∀ {l : List α} {r : List β}, Paired F l r → l.length = r.length
  | _, _, .nil => rfl
  | _, _, .cons _ t => congrArg (· + 1) (pd_len t)
theorem pd_split : ∀ {l1 l2 : List α} {r : List β}, Paired F (l1 ++ l2) r → ∃ r1 r2, r = r1 ++ r2 ∧ Paired F l1 r1 ∧ Paired F l2 r2
  | [], _, r, h => ⟨[], r, rfl, .nil, h⟩
  | _ :: _, _, _, .cons h t => by
    obtain ⟨r1, r2, e, h1, h2⟩ := pd_split t
    exact ⟨_ :: r1, r2, by rw [e]; rfl, .cons h h1, h2⟩
theorem pd_app : ∀ {l1 l2 : List α} {r1 r2 : List β}, Paired F l1 r1 → Paired F l2 r2 → Paired F (l1 ++ l2) (r1 ++ r2)
  | _, _, _, _, .nil, h => h
  | _, _, _, _, .cons h t, h2 => .cons h (pd_app t h2)
theorem pd_imp : ∀ {l : List α} {r : List β}, Paired F l r → (∀ a b, b ∈ r → F a b → G a b) → Paired G l r
  | _, _, .nil, _ => .nil
  | _, _, .cons h t, k => .cons (k _ _ (List.mem_cons_self ..) h) (pd_imp t fun a b m => k a b (List.mem_cons_of_mem _ m))
theorem pd_one {a : α} {r : List β} (h : Paired F [a] r) : ∃ b, r = [b] ∧ F a b := by
  cases h with
  | cons h t => cases t; exact ⟨_, rfl, h⟩
theorem pd_get : ∀ {l : List α} {r : List β} {i : Nat} {b : β}, Paired F l r → r[i]? = some b → ∃ a, l[i]? = some a ∧ F a b
  | _, _, _, _, .nil, e => by simp at e
  | _, _, 0, _, .cons h _, e => by simp at e; subst e; exact ⟨_, rfl, h⟩
  | _, _, i + 1, _, .cons _ t, e => by
    obtain ⟨a, h1, h2⟩ := pd_get (i := i) t (by simpa using e)
    exact ⟨a, by simpa using h1, h2⟩
theorem pd_getL : ∀ {l : List α} {r : List β} {i : Nat} {a : α}, Paired F l r → l[i]? = some a → ∃ b, r[i]? = some b ∧ F a b
  | _, _, _, _, .nil, e => by simp at e
  | _, _, 0, _, .cons h _, e => by simp at e; subst e; exact ⟨_, rfl, h⟩
  | _, _, i + 1, _, .cons _ t, e => by
    obtain ⟨a, h1, h2⟩ := pd_getL (i := i) t (by simpa using e)
    exact ⟨a, by simpa using h1, h2⟩
end

/-! ### values -/
mutual
inductive Rp (K : PySem.W.Frag) (Z : Hp) : V → D → Prop
  | non : Rp K Z .non .non
  | bl (b : Bool) : Rp K Z (.bl b) (.bl b)
  | int (i : Int) : Rp K Z (.int i) (.int i)
  | str (x : Str) : Rp K Z (.str x) (.str x)
  | tup {a : Addr} {vs : List V} {ds : List D} : Rd Z a (.tup vs) → RpL K Z vs ds → Rp K Z (.ref a) (.tup ds)
  | ttp {a : Addr} {o : Obj} {vs : List V} {ds : List D} : Z a = some (.frz o (.tup vs)) → o.dict = none → RpL K Z vs ds → Rp K Z (.ref a) (.ttp ds)
  | lst {a : Addr} {vs : List V} {ds : List D} : Z a = some (.lst vs) → RpL K Z vs ds → Rp K Z (.ref a) (.lst ds)
  | dic {a : Addr} {kvs : List (Key × V)} {ks : List Ky} {ds : List D} : Z a = some (.dK kvs) → kvs.map (·.1) = ks → RpL K Z (kvs.map (·.2)) ds → Rp K Z (.ref a) (.dic ks ds)
  | ins {a C dx : Addr} {fs : List (Str × V)} {ns : List Str} {ds : List D} : Z a = some (.ins C dx fs) → fs.map (·.1) = ns → RpL K Z (fs.map (·.2)) ds → Rp K Z (.ref a) (.ins C ns ds)
  | scr {a : Addr} {ns : List Int} : SqL K Z a (ns.map V.int) → Rp K Z (.ref a) (.scr ns)
  | fn {a : Addr} : Rp K Z (.ref a) (.fn a)
  | at {a : Addr} {d : D} : Rp K Z (.ref a) d → Rp K Z (.ref a) (.at a d)
inductive RpL (K : PySem.W.Frag) (Z : Hp) : List V → List D → Prop
  | nil : RpL K Z [] []
  | cons {v : V} {vs : List V} {d : D} {ds : List D} : Rp K Z v d → RpL K Z vs ds → RpL K Z (v :: vs) (d :: ds)
end
/-- Z' has all of Z -/
abbrev Le (Z Z' : Hp) : Prop := ∀ a o, Z a = some o → Z' a = some o
theorem rd_le {Z Z' : Hp} {a : Addr} {u : HO} (h : Rd Z a u) (k : Le Z Z') : Rd Z' a u := by
  rcases h with h | ⟨o, h⟩
  · exact .inl (k _ _ h)
  · exact .inr ⟨o, k _ _ h⟩
theorem sqL_le {K : PySem.W.Frag} {Z Z' : Hp} {a : Addr} {xs : List V} (h : SqL K Z a xs) (k : Le Z Z') : SqL K Z' a xs := by
  rcases h with h | h
  · rcases h with h | ⟨o, h⟩
    · exact .inl (.inl (k _ _ h))
    · exact .inl (.inr ⟨o, k _ _ h⟩)
  · exact .inr h
section
variable {K : PySem.W.Frag} {Z Z' : Hp}
mutual
theorem Rp.le (k : Le Z Z') : ∀ (d : D) (v : V), Rp K Z v d → Rp K Z' v d
  | .non, _, h => by cases h; exact .non
  | .bl _, _, h => by cases h; exact .bl _
  | .int _, _, h => by cases h; exact .int _
  | .str _, _, h => by cases h; exact .str _
  | .tup ds, _, h => by
    cases h with
    | tup h1 h2 => exact .tup (rd_le h1 k) (RpL.le k ds _ h2)
  | .lst ds, _, h => by
    cases h with
    | lst h1 h2 => exact .lst (k _ _ h1) (RpL.le k ds _ h2)
  | .dic ks ds, _, h => by
    cases h with
    | dic h1 h2 h3 => exact .dic (k _ _ h1) h2 (RpL.le k ds _ h3)
  | .ins C ns ds, _, h => by
    cases h with
    | ins h1 h2 h3 => exact .ins (k _ _ h1) h2 (RpL.le k ds _ h3)
  | .scr _, _, h => by
    cases h with
    | scr h1 => exact .scr (sqL_le h1 k)
  | .fn _, _, h => by cases h; exact .fn
  | .at a d, _, h => by
    cases h with
    | «at» h => exact .at (Rp.le k d _ h)
  | .ttp ds, _, h => by
    cases h with
    | ttp h1 h3 h2 => exact .ttp (k _ _ h1) h3 (RpL.le k ds _ h2)
theorem RpL.le (k : Le Z Z') : ∀ (ds : List D) (vs : List V), RpL K Z vs ds → RpL K Z' vs ds
  | [], _, h => by cases h; exact .nil
  | d :: ds, _, h => by
    cases h with
    | cons h1 h2 => exact .cons (Rp.le k d _ h1) (RpL.le k ds _ h2)
end
theorem RpL.pd : ∀ {ds : List D} {vs : List V}, RpL K Z vs ds → Paired (Rp K Z) vs ds
  | [], _, h => by cases h; exact .nil
  | d :: ds, _, h => by
    cases h with
    | cons h1 h2 => exact .cons h1 (RpL.pd h2)
theorem RpL.of : ∀ {ds : List D} {vs : List V}, Paired (Rp K Z) vs ds → RpL K Z vs ds
  | _, _, .nil => .nil
  | _, _, .cons h t => .cons h (RpL.of t)
theorem RpL.len {ds : List D} {vs : List V} (h : RpL K Z vs ds) : vs.length = ds.length := pd_len h.pd
theorem RpL.app {ds es : List D} {vs us : List V} (h : RpL K Z vs ds) (h' : RpL K Z us es) : RpL K Z (vs ++ us) (ds ++ es) := .of (pd_app h.pd h'.pd)
theorem RpL.snoc {ds : List D} {vs : List V} {v : V} {d : D} (h : RpL K Z vs ds) (h' : Rp K Z v d) : RpL K Z (vs ++ [v]) (ds ++ [d]) := h.app (.cons h' .nil)
theorem RpL.get {ds : List D} {vs : List V} {i : Nat} {d : D} (h : RpL K Z vs ds) (e : ds[i]? = some d) : ∃ v, vs[i]? = some v ∧ Rp K Z v d := pd_get h.pd e
theorem RpL.getL {ds : List D} {vs : List V} {i : Nat} {v : V} (h : RpL K Z vs ds) (e : vs[i]? = some v) : ∃ d, ds[i]? = some d ∧ Rp K Z v d := pd_getL h.pd e
theorem RpL.set {ds : List D} {vs : List V} {v : V} {d : D} (h' : Rp K Z v d) : ∀ {vs : List V} {ds : List D} (i : Nat), RpL K Z vs ds → RpL K Z (vs.set i v) (ds.set i d)
  | _, _, _, .nil => .nil
  | _, _, 0, .cons _ t => .cons h' t
  | _, _, i + 1, .cons q t => .cons q (RpL.set (ds := ds) (vs := vs) h' i t)
theorem RpL.take : ∀ {vs : List V} {ds : List D} (n : Nat), RpL K Z vs ds → RpL K Z (vs.take n) (ds.take n)
  | _, _, 0, _ => .nil
  | _, _, _ + 1, .nil => .nil
  | _, _, n + 1, .cons r t => .cons r (RpL.take n t)
theorem RpL.drop : ∀ {vs : List V} {ds : List D} (n : Nat), RpL K Z vs ds → RpL K Z (vs.drop n) (ds.drop n)
  | _, _, 0, r => r
  | _, _, _ + 1, .nil => .nil
  | _, _, n + 1, .cons _ t => RpL.drop n t
theorem RpL.ints : ∀ (ns : List Int), RpL K Z (ns.map V.int) (ns.map D.int)
  | [] => .nil
  | n :: ns => .cons (.int n) (RpL.ints ns)
theorem RpL.strs : ∀ (ns : List Str), RpL K Z (ns.map V.str) (ns.map D.str)
  | [] => .nil
  | n :: ns => .cons (.str n) (RpL.strs ns)
theorem RpL.of_ints : ∀ {ns : List Int} {vs : List V}, RpL K Z vs (ns.map D.int) → vs = ns.map V.int
  | [], _, h => by cases h; rfl
  | n :: ns, _, h => by
    cases h with
    | cons h1 h2 => cases h1; rw [RpL.of_ints h2]; rfl
theorem RpL.of_strs : ∀ {ns : List Str} {vs : List V}, RpL K Z vs (ns.map D.str) → vs = ns.map V.str
  | [], _, h => by cases h; rfl
  | n :: ns, _, h => by
    cases h with
    | cons h1 h2 => cases h1; rw [RpL.of_strs h2]; rfl
theorem RpL.of_bls : ∀ {ns : List Bool} {vs : List V}, RpL K Z vs (ns.map D.bl) → vs = ns.map V.bl
  | [], _, h => by cases h; rfl
  | n :: ns, _, h => by
    cases h with
    | cons h1 h2 => cases h1; rw [RpL.of_bls h2]; rfl
end

/-- an own object and its data -/
def RpO (K : PySem.W.Frag) (Z : Hp) : HO → D → Prop
  | .lst vs, .lst ds => RpL K Z vs ds
  | .dK kvs, .dic ks ds => kvs.map (·.1) = ks ∧ RpL K Z (kvs.map (·.2)) ds
  | _, _ => False
theorem RpO.le {K : PySem.W.Frag} {Z Z' : Hp} {o : HO} {d : D} (h : RpO K Z o d) (k : Le Z Z') : RpO K Z' o d := by
  cases o <;> cases d <;> first | exact RpL.le k _ _ h | exact ⟨h.1, RpL.le k _ _ h.2⟩ | exact h.elim
theorem RpO.rp {K : PySem.W.Frag} {Z : Hp} {a : Addr} {o : HO} {d : D} (h : RpO K Z o d) (e : Z a = some o) : Rp K Z (.ref a) d := by
  cases o <;> cases d <;> first | exact .lst e h | exact .dic e h.1 h.2 | exact h.elim

/-! ### slots -/
/-- the ground of a judgement: Fx stays; Zb had stayed at the beginning; H0: the entry -/
structure Bs where
  Fx : Hp
  Zb : Hp
  H0 : Hp
  io : Nat → Addr
def SlR (K : PySem.W.Frag) (B : Bs) (Z H : Hp) (v : Option V) (fp : List Addr) : Sl → Prop
  | .un => fp = []
  | .fz d => fp = [] ∧ ∃ u, v = some u ∧ Rp K Z u d
  | .ow d => ∃ a o, v = some (.ref a) ∧ fp = [a] ∧ Z a = none ∧ B.Fx a = none ∧ B.H0 a = none ∧ H a = some o ∧ RpO K Z o d
  | .io k d => ∃ a o, v = some (.ref a) ∧ fp = [a] ∧ Z a = none ∧ B.Fx a = none ∧ H a = some o ∧ RpO K Z o d ∧ B.io k = a
  | .oo ds => ∃ (a : Addr) (as : List Addr), v = some (.ref a) ∧ fp = a :: as ∧ (∀ b ∈ fp, Z b = none ∧ B.Fx b = none ∧ B.H0 b = none) ∧ H a = some (.lst (as.map .ref)) ∧
      Paired (fun b xs => ∃ vs, H b = some (.lst vs) ∧ RpL K Z vs xs) as ds
theorem SlR.move {K : PySem.W.Frag} {B B' : Bs} (kio : B'.io = B.io) {Z Z' H H' : Hp} {v : Option V} {fp : List Addr} : ∀ {s : Sl}, SlR K B Z H v fp s → Le Z Z' → (∀ a ∈ fp, Z a = none → Z' a = none) → (∀ a ∈ fp, B.Fx a = none → B'.Fx a = none) →
    (∀ a ∈ fp, B.H0 a = none → B'.H0 a = none) → (∀ a ∈ fp, H' a = H a) → SlR K B' Z' H' v fp s
  | .un, h, _, _, _, _, _ => h
  | .fz d, ⟨h1, u, h2, h3⟩, k, _, _, _, _ => ⟨h1, u, h2, Rp.le k d u h3⟩
  | .ow d, ⟨a, o, h1, h2, h3, h4, h5, h6, h7⟩, k, kz, kf, k0, kh => by
    have m : a ∈ fp := by rw [h2]; exact List.mem_cons_self ..
    exact ⟨a, o, h1, h2, kz a m h3, kf a m h4, k0 a m h5, (kh a m).trans h6, h7.le k⟩
  | .io j d, ⟨a, o, h1, h2, h3, h4, h6, h7, h8⟩, k, kz, kf, _, kh => by
    have m : a ∈ fp := by rw [h2]; exact List.mem_cons_self ..
    exact ⟨a, o, h1, h2, kz a m h3, kf a m h4, (kh a m).trans h6, h7.le k, by rw [kio]; exact h8⟩
  | .oo ds, ⟨a, as, h1, h2, h3, h4, h5⟩, k, kz, kf, k0, kh => by
    have m : a ∈ fp := by rw [h2]; exact List.mem_cons_self ..
    refine ⟨a, as, h1, h2, fun b hb => ⟨kz b hb (h3 b hb).1, kf b hb (h3 b hb).2.1, k0 b hb (h3 b hb).2.2⟩, (kh a m).trans h4, ?_⟩
    have all : ∀ {as : List Addr} {ds : List (List D)}, (∀ b ∈ as, b ∈ fp) → Paired (fun b xs => ∃ vs, H b = some (.lst vs) ∧ RpL K Z vs xs) as ds → Paired (fun b xs => ∃ vs, H' b = some (.lst vs) ∧ RpL K Z' vs xs) as ds := by
      intro as ds hm hp
      induction hp with
      | nil => exact .nil
      | cons h t ih =>
        obtain ⟨vs, e, r⟩ := h
        exact .cons ⟨vs, (kh _ (hm _ (List.mem_cons_self ..))).trans e, RpL.le k _ _ r⟩ (ih fun b hb => hm b (List.mem_cons_of_mem _ hb))
    exact all (fun b hb => by rw [h2]; exact List.mem_cons_of_mem _ hb) h5
/-- own addresses are tracked, not of what stays -/
theorem SlR.own {K : PySem.W.Frag} {B : Bs} {Z H : Hp} {v : Option V} {fp : List Addr} : ∀ {s : Sl}, SlR K B Z H v fp s → ∀ a ∈ fp, Z a = none ∧ B.Fx a = none ∧ ∃ o, H a = some o
  | .un, h, a, m => by rw [h] at m; cases m
  | .fz d, ⟨h1, _⟩, a, m => by rw [h1] at m; cases m
  | .ow d, ⟨b, o, _, h2, h3, h4, _, h6, _⟩, a, m => by
    rw [h2] at m
    rw [List.mem_singleton.mp m]
    exact ⟨h3, h4, o, h6⟩
  | .io _ d, ⟨b, o, _, h2, h3, h4, h6, _⟩, a, m => by
    rw [h2] at m
    rw [List.mem_singleton.mp m]
    exact ⟨h3, h4, o, h6⟩
  | .oo ds, ⟨b, as, _, h2, h3, h4, h5⟩, a, m => by
    refine ⟨(h3 a m).1, (h3 a m).2.1, ?_⟩
    rw [h2] at m
    rcases List.mem_cons.mp m with e | m
    · rw [e]; exact ⟨_, h4⟩
    · have all : ∀ {as : List Addr} {ds : List (List D)}, Paired (fun b xs => ∃ vs, H b = some (.lst vs) ∧ RpL K Z vs xs) as ds → ∀ a ∈ as, ∃ o, H a = some o := by
        intro as ds hp
        induction hp with
        | nil => intro a m; cases m
        | cons h t ih =>
          intro a m
          rcases List.mem_cons.mp m with e | m
          · obtain ⟨vs, e', _⟩ := h
            rw [e]; exact ⟨_, e'⟩
          · exact ih a m
      exact all h5 a m

abbrev Ent := Option V × Sl
def Reps (K : PySem.W.Frag) (B : Bs) (Z H : Hp) (es : List Ent) : Prop := ∃ fps : List (List Addr), Paired (fun (e : Ent) fp => SlR K B Z H e.1 fp e.2) es fps ∧ fps.flatten.Nodup
theorem Reps.move {K : PySem.W.Frag} {B B' : Bs} {Z Z' H H' : Hp} {es : List Ent} (h : Reps K B Z H es) (k : Le Z Z') (kz : ∀ a o, H a = some o → Z a = none → B.Fx a = none → Z' a = none) (kf : ∀ a o, H a = some o → B.Fx a = none → Z a = none → B'.Fx a = none)
    (k0 : ∀ a, B.H0 a = none → H a ≠ none → B'.H0 a = none) (kh : ∀ a o, H a = some o → Z a = none → B.Fx a = none → H' a = some o) (kio : B'.io = B.io) : Reps K B' Z' H' es := by
  obtain ⟨fps, h1, h2⟩ := h
  refine ⟨fps, pd_imp h1 fun e fp _ r => ?_, h2⟩
  have ow := r.own
  refine r.move kio k (fun a m z => ?_) (fun a m z => ?_) (fun a m z => ?_) (fun a m => ?_)
  · obtain ⟨_, f, o, e⟩ := ow a m; exact kz a o e z f
  · obtain ⟨z', _, o, e⟩ := ow a m; exact kf a o e z z'
  · obtain ⟨_, _, o, e⟩ := ow a m; exact k0 a z (by rw [e]; simp)
  · obtain ⟨z, f, o, e⟩ := ow a m; rw [e]; exact kh a o e z f
theorem nodup_app {α : Type} {l1 l2 : List α} (h : (l1 ++ l2).Nodup) : l1.Nodup ∧ l2.Nodup ∧ ∀ a ∈ l1, a ∉ l2 := by
  rw [List.nodup_append] at h
  exact ⟨h.1, h.2.1, fun a m1 m2 => h.2.2 a m1 a m2 rfl⟩
/-- one entry at hand -/
theorem Reps.focus {K : PySem.W.Frag} {B : Bs} {Z H : Hp} {l r : List Ent} {e : Ent} (h : Reps K B Z H (l ++ e :: r)) :
    ∃ fp : List Addr, SlR K B Z H e.1 fp e.2 ∧ fp.Nodup ∧ ∀ (B' : Bs) (Z' H' : Hp) (e' : Ent) (fp' : List Addr), SlR K B' Z' H' e'.1 fp' e'.2 → fp'.Nodup → Le Z Z' → (∀ a ∈ fp', a ∈ fp ∨ H a = none) →
      (∀ a o, H a = some o → a ∉ fp → Z a = none → B.Fx a = none → Z' a = none) → (∀ a o, H a = some o → a ∉ fp → Z a = none → B.Fx a = none → B'.Fx a = none) →
      (∀ a o, H a = some o → a ∉ fp → B.H0 a = none → B'.H0 a = none) → (∀ a o, H a = some o → a ∉ fp → Z a = none → B.Fx a = none → H' a = some o) → B'.io = B.io →
      Reps K B' Z' H' (l ++ e' :: r) := by
  obtain ⟨fps, h1, h2⟩ := h
  obtain ⟨f1, f2, rfl, p1, p2⟩ := pd_split h1
  cases p2 with
  | cons q p2 =>
    rename_i fp f2
    have e1 : (f1 ++ fp :: f2).flatten = f1.flatten ++ (fp ++ f2.flatten) := by simp
    rw [e1] at h2
    obtain ⟨n1, n2, d1⟩ := nodup_app h2
    obtain ⟨n3, n4, d2⟩ := nodup_app n2
    have out1 : ∀ g ∈ f1, ∀ a ∈ g, a ∉ fp := fun g hg a ha hf => d1 a (List.mem_flatten.mpr ⟨g, hg, ha⟩) (List.mem_append_left _ hf)
    have out2 : ∀ g ∈ f2, ∀ a ∈ g, a ∉ fp := fun g hg a ha hf => d2 a hf (List.mem_flatten.mpr ⟨g, hg, ha⟩)
    refine ⟨fp, q, n3, fun B' Z' H' e' fp' q' nd' k new kz kf k0 kh kio => ?_⟩
    have mv : ∀ {en : Ent} {g : List Addr}, SlR K B Z H en.1 g en.2 → (∀ a ∈ g, a ∉ fp) → SlR K B' Z' H' en.1 g en.2 := fun {en g} s hg => by
      have ow := s.own
      refine s.move kio k (fun a m z => ?_) (fun a m f => ?_) (fun a m z => ?_) (fun a m => ?_)
      · obtain ⟨_, f, o, e⟩ := ow a m; exact kz a o e (hg a m) z f
      · obtain ⟨z, _, o, e⟩ := ow a m; exact kf a o e (hg a m) z f
      · obtain ⟨_, _, o, e⟩ := ow a m; exact k0 a o e (hg a m) z
      · obtain ⟨z, f, o, e⟩ := ow a m; rw [e]; exact kh a o e (hg a m) z f
    have tr : ∀ {es : List Ent} {gs : List (List Addr)}, Paired (fun (e : Ent) fp => SlR K B Z H e.1 fp e.2) es gs → ∀ g ∈ gs, ∀ a ∈ g, ∃ o, H a = some o := by
      intro es gs hp
      induction hp with
      | nil => intro g m; cases m
      | cons h t ih =>
        intro g m a ha
        rcases List.mem_cons.mp m with e | m
        · subst e
          exact (h.own a ha).2.2
        · exact ih g m a ha
    refine ⟨f1 ++ fp' :: f2, pd_app (pd_imp p1 fun en g hg s => mv s (out1 g hg)) (.cons q' (pd_imp p2 fun en g hg s => mv s (out2 g hg))), ?_⟩
    have e2 : (f1 ++ fp' :: f2).flatten = f1.flatten ++ (fp' ++ f2.flatten) := by simp
    rw [e2]
    refine List.nodup_append.mpr ⟨n1, List.nodup_append.mpr ⟨nd', n4, fun a m1 b m2 ab => ?_⟩, fun a m1 b m2 ab => ?_⟩
    · subst ab
      obtain ⟨g, hg, ha⟩ := List.mem_flatten.mp m2
      rcases new a m1 with z | z
      · exact out2 g hg a ha z
      · obtain ⟨o, e⟩ := tr p2 g hg a ha
        rw [e] at z; cases z
    · subst ab
      obtain ⟨g, hg, ha⟩ := List.mem_flatten.mp m1
      rcases List.mem_append.mp m2 with m2 | m2
      · rcases new a m2 with z | z
        · exact out1 g hg a ha z
        · obtain ⟨o, e⟩ := tr p1 g hg a ha
          rw [e] at z; cases z
      · exact d1 a m1 (List.mem_append_right _ m2)
theorem pd_own {K : PySem.W.Frag} {B : Bs} {Z H : Hp} : ∀ {es : List Ent} {gs : List (List Addr)}, Paired (fun (e : Ent) fp => SlR K B Z H e.1 fp e.2) es gs → ∀ a ∈ gs.flatten, Z a = none ∧ B.Fx a = none ∧ ∃ o, H a = some o
  | _, _, .nil, a, m => by simp at m
  | _, _, .cons h t, a, m => by
    rw [List.flatten_cons] at m
    rcases List.mem_append.mp m with m | m
    · exact h.own a m
    · exact pd_own t a m
/-- what is to hold of a new state for the entries to stand -/
structure Mv (B B' : Bs) (Z Z' H H' : Hp) (ex : List Addr) : Prop where
  k : Le Z Z'
  kz : ∀ a o, H a = some o → a ∉ ex → Z a = none → B.Fx a = none → Z' a = none
  kf : ∀ a o, H a = some o → a ∉ ex → Z a = none → B.Fx a = none → B'.Fx a = none
  k0 : ∀ a o, H a = some o → a ∉ ex → B.H0 a = none → B'.H0 a = none
  kh : ∀ a o, H a = some o → a ∉ ex → Z a = none → B.Fx a = none → H' a = some o
  kio : B'.io = B.io := by rfl
theorem Mv.sl {K : PySem.W.Frag} {B B' : Bs} {Z Z' H H' : Hp} {ex : List Addr} (M : Mv B B' Z Z' H H' ex) {v : Option V} {s : Sl} {g : List Addr} (h : SlR K B Z H v g s) (hg : ∀ a ∈ g, a ∉ ex) : SlR K B' Z' H' v g s := by
  have ow := h.own
  refine h.move M.kio M.k (fun a m z => ?_) (fun a m f => ?_) (fun a m z => ?_) (fun a m => ?_)
  · obtain ⟨_, f, o, e⟩ := ow a m; exact M.kz a o e (hg a m) z f
  · obtain ⟨z, _, o, e⟩ := ow a m; exact M.kf a o e (hg a m) z f
  · obtain ⟨_, _, o, e⟩ := ow a m; exact M.k0 a o e (hg a m) z
  · obtain ⟨z, f, o, e⟩ := ow a m; rw [e]; exact M.kh a o e (hg a m) z f
theorem Mv.pd {K : PySem.W.Frag} {B B' : Bs} {Z Z' H H' : Hp} {ex : List Addr} (M : Mv B B' Z Z' H H' ex) {es : List Ent} {gs : List (List Addr)} (h : Paired (fun (e : Ent) fp => SlR K B Z H e.1 fp e.2) es gs) (hg : ∀ g ∈ gs, ∀ a ∈ g, a ∉ ex) :
    Paired (fun (e : Ent) fp => SlR K B' Z' H' e.1 fp e.2) es gs := pd_imp h fun e g m r => M.sl r (hg g m)
theorem Mv.reps {K : PySem.W.Frag} {B B' : Bs} {Z Z' H H' : Hp} (M : Mv B B' Z Z' H H' []) {es : List Ent} (h : Reps K B Z H es) : Reps K B' Z' H' es := by
  obtain ⟨fps, h1, h2⟩ := h
  exact ⟨fps, M.pd h1 fun _ _ _ _ m => (by cases m), h2⟩
/-- .. and one more, on addresses that were not tracked -/
theorem Mv.snoc {K : PySem.W.Frag} {B B' : Bs} {Z Z' H H' : Hp} (M : Mv B B' Z Z' H H' []) {es : List Ent} (h : Reps K B Z H es) {e : Ent} {g : List Addr} (r : SlR K B' Z' H' e.1 g e.2) (nd : g.Nodup) (new : ∀ a ∈ g, H a = none) : Reps K B' Z' H' (es ++ [e]) := by
  obtain ⟨fps, h1, h2⟩ := h
  have ow := pd_own h1
  refine ⟨fps ++ [g], pd_app (M.pd h1 fun _ _ _ _ m => (by cases m)) (.cons r .nil), ?_⟩
  rw [List.flatten_append]
  refine List.nodup_append.mpr ⟨h2, by simpa using nd, fun a m1 b m2 ab => ?_⟩
  subst ab
  obtain ⟨_, _, o, e⟩ := ow a m1
  rw [new a (by simpa using m2)] at e
  cases e
/-- one entry changed: its own addresses at hand -/
theorem Reps.at {K : PySem.W.Frag} {B : Bs} {Z H : Hp} {l r : List Ent} {e : Ent} (h : Reps K B Z H (l ++ e :: r)) :
    ∃ g : List Addr, SlR K B Z H e.1 g e.2 ∧ g.Nodup ∧ ∀ (B' : Bs) (Z' H' : Hp) (e' : Ent) (g' : List Addr), Mv B B' Z Z' H H' g → SlR K B' Z' H' e'.1 g' e'.2 → g'.Nodup → (∀ a ∈ g', a ∈ g ∨ H a = none) → Reps K B' Z' H' (l ++ e' :: r) := by
  obtain ⟨g, h1, h2, h3⟩ := h.focus
  exact ⟨g, h1, h2, fun B' Z' H' e' g' M s nd new => h3 B' Z' H' e' g' s nd M.k new M.kz M.kf M.k0 M.kh M.kio⟩
theorem Reps.sub {K : PySem.W.Frag} {B : Bs} {Z H : Hp} {l r : List Ent} (h : Reps K B Z H (l ++ r)) : Reps K B Z H l := by
  obtain ⟨fps, h1, h2⟩ := h
  obtain ⟨f1, f2, rfl, p1, _⟩ := pd_split h1
  rw [List.flatten_append] at h2
  exact ⟨f1, p1, (nodup_app h2).1⟩
end Pu

set_option Elab.async false
set_option linter.all false
set_option maxRecDepth 100000
/-! Pu, states and what is done to them. -/
namespace Pu
open PySem L2

abbrev tmps (tmp : List (V × Sl)) : List Ent := tmp.map fun p => (some p.1, p.2)
/-- the state: slots σ and heap H stand for the slots ρ; Z is what stays; tmp: values at hand -/
structure St1 (K : PySem.W.Frag) (B : Bs) (σ : L2.St) (H : Hp) (ρ : En) (Z : Hp) (tmp : List (V × Sl)) : Prop where
  len : σ.length = ρ.length
  sub : Le Z H
  zn : ∀ a o, Z a = some o → B.Zb a = some o ∨ (B.Fx a = none ∧ B.H0 a = none)
  zo : Le B.Zb Z
  fx : Le B.Fx H
  dm : ∀ a, B.H0 a ≠ none → H a ≠ none
  rp : Reps K B Z H (σ.zip ρ ++ tmps tmp)

theorem zip_focus : ∀ {σ : L2.St} {ρ : En} {i : Nat} {s : Sl}, σ.length = ρ.length → ρ[i]? = some s → ∃ (v : Option V) (l r : List Ent), σ[i]? = some v ∧ σ.zip ρ = l ++ (v, s) :: r ∧ ∀ v' s', (σ.set i v').zip (ρ.set i s') = l ++ (v', s') :: r
  | [], [], _, _, _, e => by simp at e
  | v :: σ, t :: ρ, 0, s, _, e => by
    simp at e; subst e
    exact ⟨v, [], σ.zip ρ, rfl, rfl, fun _ _ => rfl⟩
  | v :: σ, t :: ρ, i + 1, s, hl, e => by
    obtain ⟨u, l, r, h1, h2, h3⟩ := zip_focus (σ := σ) (ρ := ρ) (i := i) (s := s) (by simpa using hl) (by simpa using e)
    refine ⟨u, (v, t) :: l, r, by simpa using h1, by simp [h2], fun v' s' => ?_⟩
    simp [h3]
  | [], _ :: _, _, _, hl, _ => by simp at hl
  | _ :: _, [], _, _, hl, _ => by simp at hl
theorem set_same {α : Type} : ∀ {l : List α} {i : Nat} {x : α}, l[i]? = some x → l.set i x = l
  | [], _, _, e => by simp at e
  | _ :: _, 0, _, e => by simp at e; subst e; rfl
  | _ :: l, i + 1, x, e => by simp at e; simp [set_same (l := l) (i := i) (x := x) (by simpa using e)]
theorem le_upd {Z : Hp} {p : Addr} {o : HO} (h : Z p = none) : Le Z (upd Z p o) := fun a u e => by rw [upd_ne (ne_of_none e h)]; exact e
theorem upd_none {H : Hp} {a b : Addr} {o : HO} (h : H a = none) (ne : a ≠ b) : upd H b o a = none := by rw [upd_ne ne]; exact h
theorem upd_some {H : Hp} {a b : Addr} {o u : HO} (h : H a = some u) (ne : a ≠ b) : upd H b o a = some u := by rw [upd_ne ne]; exact h
theorem Le.trans' {Z1 Z2 Z3 : Hp} (h : Le Z1 Z2) (h' : Le Z2 Z3) : Le Z1 Z3 := fun a o e => h' a o (h a o e)

section
variable {K : PySem.W.Frag} {B : Bs} {σ : L2.St} {H H' : Hp} {ρ : En} {Z : Hp} {tmp : List (V × Sl)}
theorem St1.fresh (S : St1 K B σ H ρ Z tmp) {p : Addr} (hp : H p = none) : Z p = none ∧ B.Fx p = none ∧ B.H0 p = none := by
  refine ⟨?_, ?_, ?_⟩
  · cases e : Z p with
    | none => rfl
    | some o => rw [S.sub _ _ e] at hp; cases hp
  · cases e : B.Fx p with
    | none => rfl
    | some o => rw [S.fx _ _ e] at hp; cases hp
  · cases e : B.H0 p with
    | none => rfl
    | some o => exact absurd hp (S.dm p (by rw [e]; simp))
theorem mv_new {p : Addr} {o : HO} (hp : H p = none) : Mv B B Z Z H (upd H p o) [] :=
  ⟨fun _ _ e => e, fun _ _ _ _ z _ => z, fun _ _ _ _ _ f => f, fun _ _ _ _ z => z, fun _ _ e _ _ _ => upd_some e (ne_of_none e hp), rfl⟩
theorem tmps_snoc {p : V × Sl} : σ.zip ρ ++ tmps (tmp ++ [p]) = (σ.zip ρ ++ tmps tmp) ++ [(some p.1, p.2)] := by simp [tmps]
/-- a new own object -/
theorem St1.alloc (S : St1 K B σ H ρ Z tmp) {p : Addr} {o : HO} {d : D} (hp : H p = none) (r : RpO K Z o d) : St1 K B σ (upd H p o) ρ Z (tmp ++ [(.ref p, .ow d)]) := by
  obtain ⟨z, f, h0⟩ := S.fresh hp
  refine ⟨S.len, fun a u e => upd_some (S.sub _ _ e) (ne_of_none (S.sub _ _ e) hp), S.zn, S.zo, fun a u e => upd_some (S.fx _ _ e) (ne_of_none (S.fx _ _ e) hp), fun a e => ?_, ?_⟩
  · by_cases ap : a = p
    · rw [ap, upd_same]; simp
    · rw [upd_ne ap]; exact S.dm a e
  · rw [tmps_snoc]
    exact (mv_new hp).snoc S.rp (g := [p]) ⟨p, o, rfl, rfl, z, f, h0, upd_same, r⟩ (by simp) fun a m => by rw [List.mem_singleton.mp m]; exact hp
/-- a new object that stays -/
theorem St1.allocZ (S : St1 K B σ H ρ Z tmp) {p : Addr} {o : HO} (hp : H p = none) : St1 K B σ (upd H p o) ρ (upd Z p o) tmp ∧ Le Z (upd Z p o) := by
  obtain ⟨z, f, h0⟩ := S.fresh hp
  refine ⟨⟨S.len, fun a u e => ?_, fun a u e => ?_, S.zo.trans' (le_upd z), fun a u e => upd_some (S.fx _ _ e) (ne_of_none (S.fx _ _ e) hp), fun a e => ?_, ?_⟩, le_upd z⟩
  · by_cases ap : a = p
    · rw [ap, upd_same] at e ⊢; exact e
    · rw [upd_ne ap] at e ⊢; exact S.sub _ _ e
  · by_cases ap : a = p
    · rw [ap]; exact .inr ⟨f, h0⟩
    · rw [upd_ne ap] at e; exact S.zn _ _ e
  · by_cases ap : a = p
    · rw [ap, upd_same]; simp
    · rw [upd_ne ap]; exact S.dm a e
  · exact Mv.reps ⟨le_upd z, fun a u e _ z' _ => upd_none z' (ne_of_none e hp), fun _ _ _ _ _ f => f, fun _ _ _ _ z => z, fun a u e _ _ _ => upd_some e (ne_of_none e hp), rfl⟩ S.rp
theorem St1.drop (S : St1 K B σ H ρ Z tmp) : St1 K B σ H ρ Z [] := ⟨S.len, S.sub, S.zn, S.zo, S.fx, S.dm, by have := S.rp.sub; simpa [tmps] using this⟩
/-- the last value at hand, of whatever make, is one that stays -/
theorem St1.thaw {v : V} {s : Sl} {d : D} (S : St1 K B σ H ρ Z (tmp ++ [(v, s)])) (hs : s = .fz d ∨ s = .ow d) : ∃ Z', Le Z Z' ∧ St1 K B σ H ρ Z' (tmp ++ [(v, .fz d)]) ∧ Rp K Z' v d := by
  have R := S.rp
  rw [tmps_snoc] at R
  obtain ⟨g, q, nd, put⟩ := Reps.at (r := []) R
  rcases hs with rfl | rfl
  · obtain ⟨_, u, e, r⟩ := id q
    have e' : some v = some u := e
    cases e'
    exact ⟨Z, fun _ _ e => e, S, r⟩
  · obtain ⟨a, o, e, rfl, z, f, h0, ha, ro⟩ := q
    have e' : some v = some (V.ref a) := e
    cases e'
    refine ⟨upd Z a o, le_upd z, ⟨S.len, fun b u eb => ?_, fun b u eb => ?_, S.zo.trans' (le_upd z), S.fx, S.dm, ?_⟩, ?_⟩
    · by_cases ap : b = a
      · rw [ap, upd_same] at eb; rw [ap, ha]; exact eb
      · rw [upd_ne ap] at eb; exact S.sub _ _ eb
    · by_cases ap : b = a
      · rw [ap]; exact .inr ⟨f, h0⟩
      · rw [upd_ne ap] at eb; exact S.zn _ _ eb
    · rw [tmps_snoc]
      refine put B _ H (some (.ref a), .fz d) [] ⟨le_upd z, fun b u eb nb z' _ => upd_none z' (by simpa using nb), fun _ _ _ _ _ f => f, fun _ _ _ _ z => z, fun _ _ e _ _ _ => e, rfl⟩ ⟨rfl, _, rfl, (ro.le (le_upd z)).rp upd_same⟩ (by simp) (fun _ m => by cases m)
    · exact (ro.le (le_upd z)).rp upd_same
/-- a list of own lists too -/
theorem oo_rp {Z : Hp} : ∀ {as : List Addr} {ds : List (List D)}, Paired (fun b xs => ∃ vs, Z b = some (.lst vs) ∧ RpL K Z vs xs) as ds → RpL K Z (as.map .ref) (ds.map .lst)
  | _, _, .nil => .nil
  | _, _, .cons ⟨_, e, r⟩ t => .cons (.lst e r) (oo_rp t)
theorem St1.thawS {i : Nat} {s : Sl} {d : D} (S : St1 K B σ H ρ Z []) (e : ρ[i]? = some s) (hs : s = .fz d ∨ s = .ow d ∨ ∃ ds, s = .oo ds ∧ d = .lst (ds.map .lst)) :
    ∃ Z' v, Le Z Z' ∧ σ[i]? = some (some v) ∧ St1 K B σ H (ρ.set i (.fz d)) Z' [] ∧ Rp K Z' v d := by
  obtain ⟨v, l, r, e1, e2, e3⟩ := zip_focus S.len e
  have R := S.rp
  simp only [tmps, List.map_nil, List.append_nil, e2] at R
  obtain ⟨g, q, nd, put⟩ := Reps.at R
  have fin : ∀ {u : V} {Z' : Hp}, σ[i]? = some (some u) → Le Z Z' → (∀ b o, Z' b = some o → Z b = some o ∨ (b ∈ g ∧ H b = some o ∧ B.Fx b = none ∧ B.H0 b = none)) → Rp K Z' u d →
      (∀ b o, H b = some o → b ∉ g → Z b = none → Z' b = none) → St1 K B σ H (ρ.set i (.fz d)) Z' [] := fun {u Z'} eu le back rp out => by
    refine ⟨by rw [List.length_set]; exact S.len, fun b o eb => ?_, fun b o eb => ?_, S.zo.trans' le, S.fx, S.dm, ?_⟩
    · rcases back b o eb with z | ⟨_, z, _⟩
      · exact S.sub _ _ z
      · exact z
    · rcases back b o eb with z | ⟨_, _, z⟩
      · exact S.zn _ _ z
      · exact .inr z
    · have e4 := e3 (some u) (.fz d)
      rw [set_same eu] at e4
      simp only [tmps, List.map_nil, List.append_nil]
      rw [e4]
      exact put B Z' H (some u, .fz d) [] ⟨le, fun b o eb nb z _ => out b o eb nb z, fun _ _ _ _ _ f => f, fun _ _ _ _ z => z, fun _ _ e _ _ _ => e, rfl⟩ ⟨rfl, u, rfl, rp⟩ (by simp) (fun _ m => by cases m)
  rcases hs with rfl | rfl | ⟨ds, rfl, rfl⟩
  · obtain ⟨_, u, e', r⟩ := id q
    have e' : v = some u := e'
    subst e'
    exact ⟨Z, u, fun _ _ e => e, e1, fin e1 (fun _ _ e => e) (fun _ _ z => .inl z) r (fun _ _ _ _ z => z), r⟩
  · obtain ⟨a, o, e', rfl, z, f, h0, ha, ro⟩ := q
    have e' : v = some (V.ref a) := e'
    subst e'
    have rr := (ro.le (le_upd (o := o) z)).rp upd_same
    refine ⟨upd Z a o, .ref a, le_upd z, e1, fin e1 (le_upd z) (fun b u eb => ?_) rr (fun b u eb nb z' => upd_none z' (by simpa using nb)), rr⟩
    by_cases ap : b = a
    · rw [ap, upd_same] at eb; rw [ap]; exact .inr ⟨by simp, ha.trans eb, f, h0⟩
    · rw [upd_ne ap] at eb; exact .inl eb
  · obtain ⟨a, as, e', rfl, zs, ha, pr⟩ := q
    have e' : v = some (V.ref a) := e'
    subst e'
    let Z' : Hp := fun b => if b ∈ a :: as then H b else Z b
    have zin : ∀ {b : Addr}, b ∈ a :: as → Z' b = H b := fun m => if_pos m
    have zout : ∀ {b : Addr}, b ∉ a :: as → Z' b = Z b := fun m => if_neg m
    have le : Le Z Z' := fun b o eb => by
      by_cases m : b ∈ a :: as
      · rw [(zs b m).1] at eb; cases eb
      · rw [zout m]; exact eb
    have pr' : Paired (fun b xs => ∃ vs, Z' b = some (.lst vs) ∧ RpL K Z' vs xs) as ds := by
      have all : ∀ {as' : List Addr} {ds : List (List D)}, (∀ b ∈ as', b ∈ a :: as) → Paired (fun b xs => ∃ vs, H b = some (.lst vs) ∧ RpL K Z vs xs) as' ds → Paired (fun b xs => ∃ vs, Z' b = some (.lst vs) ∧ RpL K Z' vs xs) as' ds := by
        intro as' ds hm hp
        induction hp with
        | nil => exact .nil
        | cons h t ih =>
          obtain ⟨vs, e, r⟩ := h
          exact .cons ⟨vs, (zin (hm _ (List.mem_cons_self ..))).trans e, RpL.le le _ _ r⟩ (ih fun b hb => hm b (List.mem_cons_of_mem _ hb))
      exact all (fun b hb => List.mem_cons_of_mem _ hb) pr
    have rr : Rp K Z' (.ref a) (.lst (ds.map .lst)) := .lst ((zin (List.mem_cons_self ..)).trans ha) (oo_rp pr')
    refine ⟨Z', .ref a, le, e1, fin e1 le (fun b u eb => ?_) rr (fun b u eb nb z' => by rw [zout nb]; exact z'), rr⟩
    by_cases m : b ∈ a :: as
    · rw [zin m] at eb; exact .inr ⟨m, eb, (zs b m).2⟩
    · rw [zout m] at eb; exact .inl eb
/-- a value at hand goes to a slot -/
theorem St1.store {i : Nat} {v : V} {s : Sl} {rest : List (V × Sl)} (S : St1 K B σ H ρ Z ((v, s) :: rest)) : St1 K B (σ.set i (some v)) H (ρ.set i s) Z rest := by
  refine ⟨by simp [S.len], S.sub, S.zn, S.zo, S.fx, S.dm, ?_⟩
  obtain ⟨fps, h1, h2⟩ := S.rp
  obtain ⟨f1, f2, rfl, p1, p2⟩ := pd_split h1
  cases p2 with
  | cons q p3 =>
  rename_i g f3
  simp only [List.flatten_append, List.flatten_cons] at h2
  obtain ⟨n1, n2, d⟩ := nodup_app h2
  obtain ⟨n3, n4, d3⟩ := nodup_app n2
  cases e : ρ[i]? with
  | none =>
    have hi : ρ.length ≤ i := List.getElem?_eq_none_iff.mp e
    rw [List.set_eq_of_length_le (by rw [S.len]; exact hi), List.set_eq_of_length_le hi]
    refine ⟨f1 ++ f3, pd_app p1 p3, ?_⟩
    rw [List.flatten_append]
    exact List.nodup_append.mpr ⟨n1, n4, fun a ha b hb ab => d a ha (List.mem_append_right _ (ab ▸ hb))⟩
  | some s0 =>
    obtain ⟨u, l, r, e1, e2, e3⟩ := zip_focus S.len e
    rw [e3]
    rw [e2] at p1
    obtain ⟨g1, g2, rfl, q1, q2⟩ := pd_split p1
    cases q2 with
    | cons q0 q2 =>
      rename_i g0 g2
      refine ⟨(g1 ++ g :: g2) ++ f3, pd_app (pd_app q1 (.cons q q2)) p3, ?_⟩
      have e4 : (g1 ++ g0 :: g2).flatten = g1.flatten ++ (g0 ++ g2.flatten) := by simp
      have e5 : ((g1 ++ g :: g2) ++ f3).flatten = (g1.flatten ++ (g ++ g2.flatten)) ++ f3.flatten := by simp
      rw [e4] at n1 d
      rw [e5]
      obtain ⟨m1, m2, md⟩ := nodup_app n1
      obtain ⟨_, m4, _⟩ := nodup_app m2
      refine List.nodup_append.mpr ⟨List.nodup_append.mpr ⟨m1, List.nodup_append.mpr ⟨n3, m4, fun a ha b hb ab => ?_⟩, fun a ha b hb ab => ?_⟩, n4, fun a ha b hb ab => ?_⟩
      · subst ab
        exact d a (List.mem_append_right _ (List.mem_append_right _ hb)) (List.mem_append_left _ ha)
      · subst ab
        rcases List.mem_append.mp hb with hb | hb
        · exact d a (List.mem_append_left _ ha) (List.mem_append_left _ hb)
        · exact md a ha (List.mem_append_right _ hb)
      · subst ab
        rcases List.mem_append.mp ha with ha | ha
        · exact d a (List.mem_append_left _ ha) (List.mem_append_right _ hb)
        · rcases List.mem_append.mp ha with ha | ha
          · exact d3 a ha hb
          · exact d a (List.mem_append_right _ (List.mem_append_right _ ha)) (List.mem_append_right _ hb)
/-- a slot is forgotten -/
theorem St1.forget {i : Nat} (S : St1 K B σ H ρ Z []) {x : Option V} : St1 K B (σ.set i x) H (ρ.set i .un) Z [] := by
  refine ⟨by simp [S.len], S.sub, S.zn, S.zo, S.fx, S.dm, ?_⟩
  simp only [tmps, List.map_nil, List.append_nil]
  have R := S.rp
  simp only [tmps, List.map_nil, List.append_nil] at R
  cases e : ρ[i]? with
  | none =>
    have hi : ρ.length ≤ i := List.getElem?_eq_none_iff.mp e
    rw [List.set_eq_of_length_le (by rw [S.len]; exact hi), List.set_eq_of_length_le hi]
    exact R
  | some s0 =>
    obtain ⟨u, l, r, e1, e2, e3⟩ := zip_focus S.len e
    rw [e3]
    rw [e2] at R
    obtain ⟨g, q, nd, put⟩ := Reps.at R
    exact put B Z H (x, .un) [] ⟨fun _ _ e => e, fun _ _ _ _ z _ => z, fun _ _ _ _ _ f => f, fun _ _ _ _ z => z, fun _ _ e _ _ _ => e, rfl⟩ rfl (by simp) (fun _ m => by cases m)
/-- an own object is written; the values at hand stay -/
theorem St1.write {i : Nat} {s s' : Sl} {d d' : D} (S : St1 K B σ H ρ Z []) (e : ρ[i]? = some s) (hs : (s = .ow d ∧ s' = .ow d') ∨ ∃ k, s = .io k d ∧ s' = .io k d') :
    ∃ a o, σ[i]? = some (some (.ref a)) ∧ H a = some o ∧ RpO K Z o d ∧ ∀ o', RpO K Z o' d' → St1 K B σ (upd H a o') (ρ.set i s') Z [] := by
  obtain ⟨v, l, r, e1, e2, e3⟩ := zip_focus S.len e
  have R := S.rp
  simp only [tmps, List.map_nil, List.append_nil, e2] at R
  obtain ⟨g, q, nd, put⟩ := Reps.at R
  have fin : ∀ {a : Addr} {o o' : HO}, v = some (.ref a) → g = [a] → Z a = none → B.Fx a = none → H a = some o → SlR K B Z (upd H a o') (some (.ref a)) [a] s' → St1 K B σ (upd H a o') (ρ.set i s') Z [] := fun {a o o'} ev eg z f ha sl => by
    subst ev eg
    refine ⟨by rw [List.length_set]; exact S.len, fun b u eb => upd_some (S.sub _ _ eb) (ne_of_none eb z), S.zn, S.zo, fun b u eb => upd_some (S.fx _ _ eb) (ne_of_none eb f), fun b eb => ?_, ?_⟩
    · by_cases ap : b = a
      · rw [ap, upd_same]; simp
      · rw [upd_ne ap]; exact S.dm b eb
    · have e4 := e3 (some (.ref a)) s'
      rw [set_same e1] at e4
      simp only [tmps, List.map_nil, List.append_nil]
      rw [e4]
      exact put B Z _ (some (.ref a), s') [a] ⟨fun _ _ e => e, fun _ _ _ _ z _ => z, fun _ _ _ _ _ f => f, fun _ _ _ _ z => z, fun b u eb nb _ _ => upd_some eb (by simpa using nb), rfl⟩ sl (by simp) (fun b m => .inl m)
  rcases hs with ⟨rfl, rfl⟩ | ⟨k, rfl, rfl⟩
  · obtain ⟨a, o, e', eg, z, f, h0, ha, ro⟩ := q
    have e' : v = some (V.ref a) := e'
    refine ⟨a, o, by rw [← e']; exact e1, ha, ro, fun o' r' => fin e' eg z f ha ⟨a, o', rfl, rfl, z, f, h0, upd_same, r'⟩⟩
  · obtain ⟨a, o, e', eg, z, f, ha, ro, kk⟩ := q
    have e' : v = some (V.ref a) := e'
    exact ⟨a, o, by rw [← e']; exact e1, ha, ro, fun o' r' => fin e' eg z f ha ⟨a, o', rfl, rfl, z, f, upd_same, r', kk⟩⟩
/-- the ground moved up to now -/
theorem St1.rebase (S : St1 K B σ H ρ Z tmp) : St1 K { B with Zb := Z } σ H ρ Z tmp :=
  ⟨S.len, S.sub, fun _ _ e => .inl e, fun _ _ e => e, S.fx, S.dm, Mv.reps (B := B) ⟨fun _ _ e => e, fun _ _ _ _ z _ => z, fun _ _ _ _ _ f => f, fun _ _ _ _ z => z, fun _ _ e _ _ _ => e, rfl⟩ S.rp⟩
theorem St1.unbase {σ' : L2.St} {ρ' : En} {tmp' : List (V × Sl)} {Z' : Hp} (S : St1 K { B with Zb := Z } σ' H' ρ' Z' tmp') (h : ∀ a o, Z a = some o → B.Zb a = some o ∨ (B.Fx a = none ∧ B.H0 a = none)) (k : Le B.Zb Z) : St1 K B σ' H' ρ' Z' tmp' ∧ Le Z Z' :=
  ⟨⟨S.len, S.sub, fun a o e => (S.zn a o e).elim (h a o) .inr, k.trans' S.zo, S.fx, S.dm, Mv.reps (B := { B with Zb := Z }) ⟨fun _ _ e => e, fun _ _ _ _ z _ => z, fun _ _ _ _ _ f => f, fun _ _ _ _ z => z, fun _ _ e _ _ _ => e, rfl⟩ S.rp⟩, S.zo⟩
/-- a value at hand is held while something else runs -/
theorem St1.hold {v : V} {s : Sl} (S : St1 K B σ H ρ Z [(v, s)]) (hs : (∃ d, s = .fz d) ∨ ∃ d, s = .ow d) :
    ∃ B' : Bs, St1 K B' σ H ρ Z [] ∧ ∀ (σ' : L2.St) (H' : Hp) (ρ' : En) (Z' : Hp) (tmp : List (V × Sl)), St1 K B' σ' H' ρ' Z' tmp → St1 K B σ' H' ρ' Z' ((v, s) :: tmp) ∧ Le Z Z' := by
  have R := S.rp
  obtain ⟨fps, h1, h2⟩ := id R
  obtain ⟨f1, f2, rfl, p1, p2⟩ := pd_split h1
  obtain ⟨g, rfl, q⟩ := pd_one p2
  have S0 := S.drop.rebase
  -- the entry goes between the slots and the rest
  have ins : ∀ {B' : Bs} {σ' : L2.St} {H' : Hp} {ρ' : En} {Z' : Hp} {tmp : List (V × Sl)} {g' : List Addr} {fps : List (List Addr)}, Paired (fun (e : Ent) fp => SlR K B' Z' H' e.1 fp e.2) (σ'.zip ρ' ++ tmps tmp) fps → fps.flatten.Nodup →
      SlR K B' Z' H' (some v) g' s → g'.Nodup → (∀ a ∈ g', a ∉ fps.flatten) → Reps K B' Z' H' (σ'.zip ρ' ++ tmps ((v, s) :: tmp)) := fun {B' σ' H' ρ' Z' tmp g' fps} k1 k2 q' nd' o => by
    obtain ⟨a1, a2, rfl, m1, m2⟩ := pd_split k1
    refine ⟨a1 ++ g' :: a2, pd_app m1 (.cons q' m2), ?_⟩
    rw [List.flatten_append] at k2 o
    obtain ⟨n1, n2, dd⟩ := nodup_app k2
    have e5 : (a1 ++ g' :: a2).flatten = a1.flatten ++ (g' ++ a2.flatten) := by simp
    rw [e5]
    refine List.nodup_append.mpr ⟨n1, List.nodup_append.mpr ⟨nd', n2, fun a ha b hb ab => ?_⟩, fun a ha b hb ab => ?_⟩
    · subst ab; exact o a ha (List.mem_append_right _ hb)
    · subst ab
      rcases List.mem_append.mp hb with hb | hb
      · exact o a hb (List.mem_append_left _ ha)
      · exact dd a ha hb
  rcases hs with ⟨d, rfl⟩ | ⟨d, rfl⟩
  · refine ⟨{ B with Zb := Z }, S0, fun σ' H' ρ' Z' tmp S' => ?_⟩
    obtain ⟨T, k⟩ := S'.unbase (B := B) (Z := Z) S.zn S.zo
    obtain ⟨eg, u, e, r⟩ := q
    have e : some v = some u := e
    cases e
    refine ⟨⟨T.len, T.sub, T.zn, T.zo, T.fx, T.dm, ?_⟩, k⟩
    obtain ⟨fps, k1, k2⟩ := T.rp
    exact ins (g' := []) k1 k2 ⟨rfl, v, rfl, Rp.le k d v r⟩ (by simp) (fun _ m => by cases m)
  · obtain ⟨a, o, e, rfl, z, f, h0, ha, ro⟩ := q
    have e : some v = some (V.ref a) := e
    cases e
    generalize hF : upd B.Fx a o = F'
    have Fa : F' a = some o := by rw [← hF, upd_same]
    have Fb : ∀ {b : Addr}, b ≠ a → F' b = B.Fx b := fun nb => by rw [← hF, upd_ne nb]
    refine ⟨⟨F', Z, B.H0, B.io⟩, ⟨S.len, S.sub, fun _ _ e => .inl e, fun _ _ e => e, fun b u eb => ?_, S.dm, ?_⟩, fun σ' H' ρ' Z' tmp S' => ?_⟩
    · have eb : F' b = some u := eb
      by_cases ap : b = a
      · rw [ap, Fa] at eb; rw [ap, ha]; exact eb
      · rw [Fb ap] at eb; exact S.fx _ _ eb
    · simp only [tmps, List.map_nil, List.append_nil]
      simp only [List.flatten_append, List.flatten_cons, List.flatten_nil, List.append_nil] at h2
      obtain ⟨n1, _, dd⟩ := nodup_app h2
      refine ⟨f1, Mv.pd (B := B) (B' := ⟨F', Z, B.H0, B.io⟩) (ex := [a]) ⟨fun _ _ e => e, fun _ _ _ _ z _ => z, fun b _ _ nb _ f => (Fb (by simpa using nb)).trans f, fun _ _ _ _ z => z, fun _ _ e _ _ _ => e, rfl⟩ p1 (fun g hg b hb m => ?_), n1⟩
      exact dd b (List.mem_flatten.mpr ⟨g, hg, hb⟩) m
    · have ha' : H' a = some o := S'.fx a o Fa
      have z' : Z' a = none := by
        cases e : Z' a with
        | none => rfl
        | some u =>
          rcases S'.zn a u e with q | ⟨q, _⟩
          · have q : Z a = some u := q
            rw [z] at q; cases q
          · have q : F' a = none := q
            rw [Fa] at q; cases q
      have k : Le Z Z' := S'.zo
      have back : ∀ {b : Addr}, F' b = none → B.Fx b = none := fun {b} q => by
        by_cases ap : b = a
        · rw [ap]; exact f
        · rw [Fb ap] at q; exact q
      refine ⟨⟨S'.len, S'.sub, fun b u e => ?_, S.zo.trans' k, fun b u e => S'.fx b u ((Fb (ne_of_none e f)).trans e), S'.dm, ?_⟩, k⟩
      · rcases S'.zn b u e with q | ⟨q, q2⟩
        · exact S.zn b u q
        · exact .inr ⟨back q, q2⟩
      · obtain ⟨fps, k1, k2⟩ := S'.rp
        refine ins (g' := [a]) (Mv.pd (B := ⟨F', Z, B.H0, B.io⟩) (B' := B) (ex := []) ⟨fun _ _ e => e, fun _ _ _ _ z _ => z, fun b _ _ _ _ f' => back f', fun _ _ _ _ z => z, fun _ _ e _ _ _ => e, rfl⟩ k1 (fun _ _ _ _ m => by cases m)) k2 ⟨a, o, rfl, rfl, z', f, h0, ha', ro.le k⟩ (by simp) (fun b mb hm => ?_)
        rw [List.mem_singleton.mp mb] at hm
        obtain ⟨_, q, _⟩ := pd_own k1 a hm
        have q : F' a = none := q
        rw [Fa] at q; cases q
end
end Pu

set_option Elab.async false
set_option linter.all false
set_option maxRecDepth 100000
/-! Pu, the judgements: a piece of syntax, run in the heap, does what its reading over plain data says. -/
namespace Pu
open PySem L2

/-- the contexts in which a piece of syntax is read: a def's body, or a block within it at any of its starts -/
structure Fm where
  ι : Type
  X : ι → Cx
  K : PySem.W.Frag
  W : WX
  hK : ∀ i, (X i).K = K
  calm : ∀ i, (X i).calm = true
  nd : ∀ i, (X i).N.Nodup
  un : ∀ i, (X i).A.units + 80 < cLine
  gd : ∀ i, (X i).A.guards = some []
  po : ∀ i, PassesOwn (model (X i).prog (X i).w) (X i).A (X i).env (X i).xe
  tk : ∀ i, Takes (X i) W
  w : World
  hw : ∀ i, (X i).w = w

/-- what is wanted of an error is what the context takes -/
def ExOk (F : Fm) (B : Bs) (E : EX) : Prop := ∀ σ H ρ Z C dx v d, St1 F.K B σ H ρ Z [] → H dx = some (.xd [("value", v)]) → Rp F.K Z v d → E C d ρ → F.W (.ref C) (some dx) σ H
def LE (F : Fm) (t : TE) (w : WE) : Prop := ∀ B σ H ρ Z Q Q' E, St1 F.K B σ H ρ Z [] → ExOk F B E → w E ρ Q' → (∀ v s H' ρ' Z', St1 F.K B σ H' ρ' Z' [(v, s)] → Le Z Z' → Q' s ρ' → Q v H') → t σ H Q
def LE' (F : Fm) (t : TE) (w : WE) : Prop := ∀ B σ H ρ Z Q Q' E, St1 F.K B σ H ρ Z [] → ExOk F B E → w E ρ Q' → (∀ v s H' ρ' Z', St1 F.K B σ H' ρ' Z' [(v, s)] → Q' s ρ' → Q v H') → t σ H Q
def RE (F : Fm) (e : Expr) (w : WE) : Prop := ∃ t, (∀ i, PE (F.X i) e t) ∧ LE F t w
def RrOk (K : PySem.W.Frag) (σ : L2.St) (Z : Hp) (v : V) : Rr → Prop
  | .val d => Rp K Z v d
  | .at i => σ[i]? = some (some v)
def LR (F : Fm) (t : TE) (w : WR) : Prop := ∀ B σ H ρ Z Q Q' E, St1 F.K B σ H ρ Z [] → ExOk F B E → w E ρ Q' → (∀ v r H' ρ' Z', St1 F.K B σ H' ρ' Z' [] → Le Z Z' → RrOk F.K σ Z' v r → Q' r ρ' → Q v H') → t σ H Q
def RR (F : Fm) (e : Expr) (w : WR) : Prop := ∃ t, (∀ i, PE (F.X i) e t) ∧ LR F t w
def LRs (F : Fm) (t : TA) (w : WRs) : Prop := ∀ B σ H ρ Z Q Q' E, St1 F.K B σ H ρ Z [] → ExOk F B E → w E ρ Q' → (∀ vs rs H' ρ' Z', St1 F.K B σ H' ρ' Z' [] → Le Z Z' → Paired (RrOk F.K σ Z') vs rs → Q' rs ρ' → Q vs H') → t σ H Q
def RRs (F : Fm) (es : List Expr) (w : WRs) : Prop := ∃ t, (∀ i, PA (F.X i) es t) ∧ LRs F t w
def LVs (F : Fm) (t : TA) (w : WVs) : Prop := ∀ B σ H ρ Z Q Q' E, St1 F.K B σ H ρ Z [] → ExOk F B E → w E ρ Q' → (∀ vs ds H' ρ' Z', St1 F.K B σ H' ρ' Z' [] → Le Z Z' → RpL F.K Z' vs ds → Q' ds ρ' → Q vs H') → t σ H Q
def RVs (F : Fm) (es : List Expr) (w : WVs) : Prop := ∃ t, (∀ i, PA (F.X i) es t) ∧ LVs F t w
def ArOk (K : PySem.W.Frag) (σ : L2.St) (Z : Hp) (v : V) : Ar → Prop
  | .v d => Rp K Z v d
  | .s i => σ[i]? = some (some v)
def LAs (F : Fm) (t : TA) (w : WAs) (ms : List Md) (is : List Nat) : Prop := ∀ B σ H ρ Z Q Q' E, St1 F.K B σ H ρ Z [] → ExOk F B E → w E ρ Q' → (∀ vs as H' ρ' Z', St1 F.K B σ H' ρ' Z' [] → Le Z Z' → Paired (ArOk F.K σ Z') vs as → modesOf as = ms → slotsOf as = is → Q' as ρ' → Q vs H') → t σ H Q
def LT (F : Fm) (t : TT) (w : WT) : Prop := ∀ B σ H ρ Z Q Q' E, St1 F.K B σ H ρ Z [] → ExOk F B E → w E ρ Q' → (∀ b H' ρ' Z', St1 F.K B σ H' ρ' Z' [] → Le Z Z' → Q' b ρ' → Q b H') → t σ H Q
def RT (F : Fm) (e : Expr) (w : WT) : Prop := ∃ t, (∀ i, PT (F.X i) e t) ∧ LT F t w
def RW (F : Fm) (e : Expr) (w : WT) : Prop := ∃ t, (∀ i, PW (F.X i) e t) ∧ LT F t w
structure EnOk (F : Fm) (B : Bs) (D : Ends) (K : EndD) : Prop where
  nx : ∀ σ H ρ Z, St1 F.K B σ H ρ Z [] → K.nx ρ → D.nx σ H
  rt : ∀ σ v s H ρ Z, St1 F.K B σ H ρ Z [(v, s)] → K.rt s ρ → D.rt v H
  bk : ∀ σ H ρ Z, St1 F.K B σ H ρ Z [] → K.bk ρ → D.bk σ H
  ct : ∀ σ H ρ Z, St1 F.K B σ H ρ Z [] → K.ct ρ → D.ct σ H
  ex : ExOk F B K.ex
def LS (F : Fm) (t : TS) (w : WS) : Prop := ∀ B σ H ρ Z D K, St1 F.K B σ H ρ Z [] → EnOk F B D K → w K ρ → t D σ H
def RS (F : Fm) (st : Stmt) (w : WS) : Prop := ∃ t, (∀ i, PS (F.X i) st t) ∧ LS F t w
def RSs (F : Fm) (st : List Stmt) (w : WS) : Prop := ∃ t, (∀ i, PSs (F.X i) st t) ∧ LS F t w
/-- vs: the slots that the target stores -/
def LG (F : Fm) (g : TG) (w : WG) (vs : List Nat) : Prop := ∀ B σ H ρ Z v s Q Q', St1 F.K B σ H ρ Z [(v, s)] → w s ρ Q' → (∀ σ' H' ρ' Z', St1 F.K B σ' H' ρ' Z' [] → Le Z Z' → wipe σ' vs = wipe σ vs → Q' ρ' → Q σ' H') → g v σ H Q
def RG (F : Fm) (tg : Expr) (w : WG) (vs : List Nat) : Prop := ∃ g, (∀ i, PG (F.X i) tg g) ∧ LG F g w vs
def LGs (F : Fm) (g : TGs) (w : WGs) (vs : List Nat) : Prop := ∀ B σ H ρ Z us ds Q Q', St1 F.K B σ H ρ Z [] → RpL F.K Z us ds → w ds ρ Q' → (∀ σ' H' ρ' Z', St1 F.K B σ' H' ρ' Z' [] → Le Z Z' → wipe σ' vs = wipe σ vs → Q' ρ' → Q σ' H') → g us σ H Q
def RGs (F : Fm) (ts : List Expr) (w : WGs) (vs : List Nat) : Prop := ∃ g, (∀ i, PGs (F.X i) ts g) ∧ LGs F g w vs
/-- an iterator that yields the items, wherever Zc has stayed -/
def ItOk (K : PySem.W.Frag) (J : It) (Zc : Hp) (items : List D) : Prop :=
  (∀ i H, Le Zc H → i < items.length → J.go i H) ∧ (∀ H, Le Zc H → J.stop items.length H) ∧
  ∀ i d H x H', Le Zc H → items[i]? = some d → J.yld i H x H' → (H' = H ∧ Rp K Zc x d) ∨ ∃ p vs ds, H p = none ∧ H' = upd H p (.tup vs) ∧ x = .ref p ∧ d = .tup ds ∧ RpL K Zc vs ds
def LI (F : Fm) (t : TI) (w : WI) : Prop := ∀ B σ H ρ Z R R' E, St1 F.K B σ H ρ Z [] → ExOk F B E → w E ρ R' → (∀ J items H' ρ' Z', St1 F.K B σ H' ρ' Z' [] → Le Z Z' → ItOk F.K J Z' items → R' items ρ' → R J H') → t σ H R
def RI (F : Fm) (tg e : Expr) (w : WI) : Prop := ∃ t, (∀ i, PI (F.X i) tg e t) ∧ LI F t w

section
variable {F : Fm} {K : PySem.W.Frag} {B : Bs} {σ : L2.St} {H H' : Hp} {ρ : En} {Z Z' : Hp} {E : EX} {e a b : Expr} {pos : Pos}
theorem St1.base (S : St1 K B σ H ρ Z []) : ∃ B', St1 K B' σ H ρ Z [] ∧ (∀ σ' H' ρ' Z' tmp, St1 K B' σ' H' ρ' Z' tmp → St1 K B σ' H' ρ' Z' tmp ∧ Le Z Z') :=
  ⟨_, S.rebase, fun _ _ _ _ _ S' => S'.unbase S.zn S.zo⟩
theorem ExOk.of {B' : Bs} (X : ExOk F B E) (h : ∀ σ' H' ρ' Z' tmp, St1 F.K B' σ' H' ρ' Z' tmp → St1 F.K B σ' H' ρ' Z' tmp ∧ Le Z Z') : ExOk F B' E := fun σ' H' ρ' Z' C dx v d S r rp q => X σ' H' ρ' Z' C dx v d (h _ _ _ _ _ S).1 r rp q
/-- what stays is told by itself -/
theorem LE.of {t : TE} {w : WE} (h : LE' F t w) : LE F t w := fun B σ H ρ Z Q Q' E S X hw k => by
  obtain ⟨B', S', back⟩ := S.base
  exact h B' σ H ρ Z Q Q' E S' (X.of back) hw fun v s H' ρ' Z' S1 q => k v s H' ρ' Z' (back _ _ _ _ _ S1).1 (back _ _ _ _ _ S1).2 q
theorem fr_of {Q : D → Prop} {s : Sl} (h : s.fr Q) : ∃ d, (s = .fz d ∨ s = .ow d) ∧ Q d := by
  cases s with
  | fz d => exact ⟨d, .inl rfl, h⟩
  | ow d => exact ⟨d, .inr rfl, h⟩
  | _ => exact h.elim
/-- a value at hand becomes one that stays, and is let go -/
theorem St1.thaw1 {v : V} {s : Sl} {d : D} (S : St1 K B σ H ρ Z [(v, s)]) (hs : s = .fz d ∨ s = .ow d) : ∃ Z', Le Z Z' ∧ St1 K B σ H ρ Z' [] ∧ Rp K Z' v d := by
  obtain ⟨Z', k, S', r⟩ := St1.thaw (tmp := []) S hs
  exact ⟨Z', k, S'.drop, r⟩
/-- a value that stays is at hand -/
theorem St1.have {v : V} {d : D} (S : St1 K B σ H ρ Z []) (r : Rp K Z v d) : St1 K B σ H ρ Z [(v, .fz d)] := by
  refine ⟨S.len, S.sub, S.zn, S.zo, S.fx, S.dm, ?_⟩
  have R := S.rp
  simp only [tmps, List.map_nil, List.append_nil] at R
  exact Mv.snoc (B := B) (g := []) ⟨fun _ _ e => e, fun _ _ _ _ z _ => z, fun _ _ _ _ _ f => f, fun _ _ _ _ z => z, fun _ _ e _ _ _ => e, rfl⟩ R ⟨rfl, v, rfl, r⟩ (by simp) (fun _ m => by cases m)
theorem St1.alloc1 (S : St1 K B σ H ρ Z []) {p : Addr} {o : HO} {d : D} (hp : H p = none) (r : RpO K Z o d) : St1 K B σ (upd H p o) ρ Z [(.ref p, .ow d)] := St1.alloc (tmp := []) S hp r

/-- an operand that is read: a value that stays, or an object of ours -/
abbrev Rd1 (K : PySem.W.Frag) (Z H : Hp) (v : V) (d : D) : Prop := Rp K Z v d ∨ ∃ a o, v = .ref a ∧ H a = some o ∧ RpO K Z o d
theorem St1.slot (S : St1 K B σ H ρ Z []) {i : Nat} {s : Sl} (e : ρ[i]? = some s) : ∃ v g, σ[i]? = some v ∧ SlR K B Z H v g s := by
  obtain ⟨v, l, r, e1, e2, _⟩ := zip_focus S.len e
  have R := S.rp
  simp only [tmps, List.map_nil, List.append_nil, e2] at R
  obtain ⟨g, q, _, _⟩ := Reps.at R
  exact ⟨v, g, e1, q⟩
theorem St1.read (S : St1 K B σ H ρ Z []) {v : V} {r : Rr} {d : D} (h : RrOk K σ Z v r) (e : look ρ r = some d) : Rd1 K Z H v d := by
  cases r with
  | val d' =>
    have e : some d' = some d := e
    cases e
    exact .inl h
  | «at» i =>
    have e : (ρ[i]?).bind Sl.dat = some d := e
    cases e1 : ρ[i]? with
    | none => rw [e1] at e; cases e
    | some s =>
      rw [e1] at e
      have e : s.dat = some d := e
      obtain ⟨u, g, e2, q⟩ := S.slot e1
      have h : σ[i]? = some (some v) := h
      rw [e2] at h
      cases h
      cases s with
      | un => cases e
      | fz d' =>
        cases e
        obtain ⟨_, u, e3, r⟩ := q
        cases e3
        exact .inl r
      | ow d' =>
        cases e
        obtain ⟨a, o, e3, _, _, _, _, ha, ro⟩ := q
        cases e3
        exact .inr ⟨a, o, rfl, ha, ro⟩
      | io _ d' =>
        cases e
        obtain ⟨a, o, e3, _, _, _, ha, ro, _⟩ := q
        cases e3
        exact .inr ⟨a, o, rfl, ha, ro⟩
      | oo _ => cases e
theorem RrOk.le {v : V} {r : Rr} (h : RrOk K σ Z v r) (k : Le Z Z') : RrOk K σ Z' v r := by
  cases r with
  | val d => exact Rp.le k d v h
  | «at» i => exact h
theorem St1.reads (S : St1 K B σ H ρ Z []) : ∀ {vs : List V} {rs : List Rr} {ds : List D}, Paired (RrOk K σ Z) vs rs → looks ρ rs = some ds → Paired (Rd1 K Z H) vs ds
  | _, _, _, .nil, e => by
    have e : some [] = some _ := e
    cases e
    exact .nil
  | _, r :: rs, ds, .cons h t, e => by
    unfold looks at e
    cases e1 : look ρ r with
    | none => rw [e1] at e; cases e
    | some d =>
      cases e2 : looks ρ rs with
      | none => rw [e1, e2] at e; cases e
      | some ds' =>
        rw [e1, e2] at e
        cases e
        exact .cons (S.read h e1) (S.reads t e2)
theorem with1_of {o : Option D} {k : D → Prop} (h : with1 o k) : ∃ x, o = some x ∧ k x := by
  cases o with
  | none => exact h.elim
  | some x => exact ⟨x, rfl, h⟩
theorem with2_of {o p : Option D} {k : D → D → Prop} (h : with2 o p k) : ∃ x y, o = some x ∧ p = some y ∧ k x y := by
  cases o with
  | none => exact h.elim
  | some x =>
    cases p with
    | none => exact h.elim
    | some y => exact ⟨x, y, rfl, rfl, h⟩
theorem withN_of {o : Option (List D)} {k : List D → Prop} (h : withN o k) : ∃ x, o = some x ∧ k x := by
  cases o with
  | none => exact h.elim
  | some x => exact ⟨x, rfl, h⟩

/-! ### names, constants -/
theorem re_k {d : D} {v : V} (h : ∀ i, PE (F.X i) e (tC v)) (r : ∀ Z, Rp F.K Z v d) : RE F e (wC d) :=
  ⟨_, h, LE.of fun B σ H ρ Z Q Q' E S X hw k => k v _ H ρ Z (S.have (r Z)) hw⟩
theorem re_int {n : Int} {j : Nat} : RE F (.Constant (.int n) j pos) (wC (.int n)) := re_k (fun _ => pe_int) fun _ => .int n
theorem re_bl {n : Bool} {j : Nat} : RE F (.Constant (.bool n) j pos) (wC (.bl n)) := re_k (fun _ => pe_bl) fun _ => .bl n
theorem re_non {j : Nat} : RE F (.Constant .none j pos) (wC .non) := re_k (fun _ => pe_non) fun _ => .non
theorem re_str {x : Str} {j : Nat} : RE F (.Constant (.str x) j pos) (wC (.str x)) := re_k (fun _ => pe_str) fun _ => .str x
/-- a constant of the module -/
theorem re_gI {x : Str} {n : Int} {t : Tok} (hm : ∀ i, (F.X i).mg x = some (.int n t)) (hg : ∀ i, Gl (F.X i) x := by intro _; rfl) (hd : (x == ("__debug__" : Str)) = false := by decide) : RE F (.Name x pos) (wC (.int n)) := re_k (v := V.int n) (fun i => pe_glob (hg i) (hm i) ⟨t, rfl⟩ hd) fun _ => .int n
theorem re_gS {x y : Str} {t : Tok} (hm : ∀ i, (F.X i).mg x = some (.str y t)) (hg : ∀ i, Gl (F.X i) x := by intro _; rfl) (hd : (x == ("__debug__" : Str)) = false := by decide) : RE F (.Name x pos) (wC (.str y)) := re_k (v := V.str y) (fun i => pe_glob (hg i) (hm i) ⟨t, rfl⟩ hd) fun _ => .str y
/-- a def or class of the module, as a value -/
theorem re_gF {x : Str} {f : Addr} (hm : ∀ i, (F.X i).mg x = some (.ref f)) (hg : ∀ i, Gl (F.X i) x := by intro _; rfl) (hd : (x == ("__debug__" : Str)) = false := by decide) : RE F (.Name x pos) (wC (.fn f)) := re_k (v := V.ref f) (fun i => pe_glob (hg i) (hm i) rfl hd) fun _ => .fn
/-- the name in slot k -/
theorem re_n (k : Nat) {x : Str} (hN : ∀ i, (F.X i).N[k]? = some x := by intro _; rfl) (hv : ∀ i, Vis (F.X i).env.scope x := by intro _; first | exact Or.inl rfl | exact Or.inr (Or.inl rfl) | exact Or.inr (Or.inr rfl)) (hd : (x == ("__debug__" : Str)) = false := by decide)
    (hcd : (x == ("__classdict__" : Str)) = false := by decide) : RE F (.Name x pos) (wN k) := by
  refine ⟨tVar k, fun i => pe_var (hN i) (hv i) hd hcd, fun B σ H ρ Z Q Q' E S X hw q => ?_⟩
  unfold wN at hw
  cases e : ρ[k]? with
  | none => rw [e] at hw; exact hw.elim
  | some s =>
    rw [e] at hw
    have fin : ∀ {d : D}, (s = .fz d ∨ s = .ow d ∨ ∃ ds, s = .oo ds ∧ d = .lst (ds.map .lst)) → Q' (.fz d) (ρ.set k (.fz d)) → tVar k σ H Q := fun {d} hs hq => by
      obtain ⟨Z', v, le, e1, S', r⟩ := S.thawS e hs
      exact ⟨v, e1, q v _ H _ Z' (S'.have r) le hq⟩
    cases s with
    | fz d =>
      have hw : Q' (.fz d) ρ := hw
      exact fin (.inl rfl) (by rw [set_same e]; exact hw)
    | ow d => exact fin (.inr (.inl rfl)) hw
    | oo ds => exact fin (.inr (.inr ⟨ds, rfl, rfl⟩)) hw
    | un => exact (show False from hw).elim
    | io _ d => exact (show False from hw).elim
theorem rr_n (k : Nat) {x : Str} (hN : ∀ i, (F.X i).N[k]? = some x := by intro _; rfl) (hv : ∀ i, Vis (F.X i).env.scope x := by intro _; first | exact Or.inl rfl | exact Or.inr (Or.inl rfl) | exact Or.inr (Or.inr rfl)) (hd : (x == ("__debug__" : Str)) = false := by decide)
    (hcd : (x == ("__classdict__" : Str)) = false := by decide) : RR F (.Name x pos) (rN k) := by
  refine ⟨tVar k, fun i => pe_var (hN i) (hv i) hd hcd, fun B σ H ρ Z Q Q' E S X hw q => ?_⟩
  unfold rN at hw
  cases e : ρ[k]? with
  | none => rw [e] at hw; exact hw.elim
  | some s =>
    rw [e] at hw
    obtain ⟨u, g, e1, sr⟩ := S.slot e
    have fin : ∀ {v : V}, u = some v → Q' (.at k) ρ → tVar k σ H Q := fun {v} ev hq => by
      rw [ev] at e1
      exact ⟨v, e1, q v (.at k) H ρ Z S (fun _ _ z => z) e1 hq⟩
    cases s with
    | fz d =>
      obtain ⟨_, v, ev, _⟩ := sr
      exact fin ev hw
    | ow d =>
      obtain ⟨a, o, ev, _⟩ := sr
      exact fin ev hw
    | io _ d =>
      obtain ⟨a, o, ev, _⟩ := sr
      exact fin ev hw
    | un => exact (show False from hw).elim
    | oo ds => exact (show False from hw).elim
theorem rr_e {w : WE} (h : RE F e w) : RR F e (rE w) := by
  obtain ⟨t, h1, h2⟩ := h
  refine ⟨t, h1, fun B σ H ρ Z Q Q' E S X hw q => h2 B σ H ρ Z Q _ E S X hw fun v s H' ρ' Z' S' le hq => ?_⟩
  obtain ⟨d, hs, hq⟩ := fr_of hq
  obtain ⟨Z2, le2, S2, r⟩ := S'.thaw1 hs
  exact q v (.val d) H' ρ' Z2 S2 (le.trans' le2) r hq

/-! ### operators, by values -/
abbrev Rc (F : Fm) (B : Bs) (σ : L2.St) (ρ : En) (Q' : Sl → Prop) (Q : VK) : Prop := ∀ v s H' Z', St1 F.K B σ H' ρ Z' [(v, s)] → Q' s → Q v H'
def OpD (F : Fm) (f : Value → Value → Sem Value) (k : K2) : Prop := ∃ r : R2, (∀ i, OpR (F.X i) f r) ∧ ∀ B σ H ρ Z x y dx dy Q Q', St1 F.K B σ H ρ Z [] → Rd1 F.K Z H x dx → Rd1 F.K Z H y dy → k dx dy Q' → Rc F B σ ρ Q' Q → r x y H Q
def UnD (F : Fm) (f : Value → Sem Value) (k : K1) : Prop := ∃ r : V → Hp → VK → Prop, (∀ i, UnR (F.X i) f r) ∧ ∀ B σ H ρ Z x dx Q Q', St1 F.K B σ H ρ Z [] → Rd1 F.K Z H x dx → k dx Q' → Rc F B σ ρ Q' Q → r x H Q
def CallD (F : Fm) (f : Value) (k : KN) : Prop := ∃ r : List V → Hp → VK → Prop, (∀ i, CallR (F.X i) f r) ∧ ∀ B σ H ρ Z xs ds Q Q', St1 F.K B σ H ρ Z [] → Paired (Rd1 F.K Z H) xs ds → k ds Q' → Rc F B σ ρ Q' Q → r xs H Q
theorem rd1_le {v : V} {d : D} (S : St1 K B σ H ρ Z []) (h : Rd1 K Z H v d) : Rp K H v d := by
  rcases h with h | ⟨a, o, rfl, ha, r⟩
  · exact Rp.le S.sub d v h
  · exact (r.le S.sub).rp ha
/-- two operands -/
theorem two_ok {ta tb : TE} {wa wb : WR} (ha : LR F ta wa) (hb : LR F tb wb) {r : R2} {k : K2} (hr : ∀ B σ H ρ Z x y dx dy Q Q', St1 F.K B σ H ρ Z [] → Rd1 F.K Z H x dx → Rd1 F.K Z H y dy → k dx dy Q' → Rc F B σ ρ Q' Q → r x y H Q) : LE F (tOp r ta tb) (wOp k wa wb) := by
  refine LE.of fun B σ H ρ Z Q Q' E S X hw q => ha B σ H ρ Z _ _ E S X hw fun x r1 H1 ρ1 Z1 S1 le1 o1 hw => hb B σ H1 ρ1 Z1 _ _ E S1 X hw fun y r2 H2 ρ2 Z2 S2 le2 o2 hw => ?_
  obtain ⟨dx, dy, e1, e2, hk⟩ := with2_of hw
  exact hr B σ H2 ρ2 Z2 x y dx dy Q _ S2 (S2.read (o1.le le2) e1) (S2.read o2 e2) hk fun v s H' Z' S' hq => q v s H' ρ2 Z' S' hq
theorem re_op {op : Operator} {k : K2} {wa wb : WR} (ho : OpD F (binaryOp op) k) (ha : RR F a wa) (hb : RR F b wb) : RE F (.BinOp a op b pos) (wOp k wa wb) := by
  obtain ⟨r, h1, h2⟩ := ho
  obtain ⟨ta, a1, a2⟩ := ha
  obtain ⟨tb, b1, b2⟩ := hb
  exact ⟨_, fun i => pe_op (h1 i) (a1 i) (b1 i), two_ok a2 b2 h2⟩
theorem re_cmp {op : CmpOp} {k : K2} {wa wb : WR} (ho : OpD F (compareOp op) k) (ha : RR F a wa) (hb : RR F b wb) (hm : behindInMarks op b = false := by first | exact nobehind _ (by decide) (by decide) | rfl) : RE F (.Compare a [op] [b] pos) (wOp k wa wb) := by
  obtain ⟨r, h1, h2⟩ := ho
  obtain ⟨ta, a1, a2⟩ := ha
  obtain ⟨tb, b1, b2⟩ := hb
  exact ⟨_, fun i => pe_cmpR (h1 i) (a1 i) (b1 i) hm, two_ok a2 b2 h2⟩
theorem re_un {op : UnaryOp} {k : K1} {wa : WR} (ho : UnD F (unaryOp op) k) (ha : RR F a wa) : RE F (.UnaryOp op a pos) (wUn k wa) := by
  obtain ⟨r, h1, h2⟩ := ho
  obtain ⟨ta, a1, a2⟩ := ha
  refine ⟨_, fun i => pe_un (h1 i) (a1 i), LE.of fun B σ H ρ Z Q Q' E S X hw q => a2 B σ H ρ Z _ _ E S X hw fun x r1 H1 ρ1 Z1 S1 le1 o1 hw => ?_⟩
  obtain ⟨dx, e1, hk⟩ := with1_of hw
  exact h2 B σ H1 ρ1 Z1 x dx Q _ S1 (S1.read o1 e1) hk fun v s H' Z' S' hq => q v s H' ρ1 Z' S' hq
theorem OpD.or {f : Value → Value → Sem Value} {k k' : K2} (h : OpD F f k) (h' : OpD F f k') : OpD F f (fun x y Q => k x y Q ∨ k' x y Q) := by
  obtain ⟨r, h1, h2⟩ := h
  obtain ⟨r', h1', h2'⟩ := h'
  refine ⟨_, fun i => (h1 i).or (h1' i), fun B σ H ρ Z x y dx dy Q Q' S rx ry hk q => ?_⟩
  rcases hk with hk | hk
  · exact .inl (h2 B σ H ρ Z x y dx dy Q Q' S rx ry hk q)
  · exact .inr (h2' B σ H ρ Z x y dx dy Q Q' S rx ry hk q)
theorem OpD.imp {f : Value → Value → Sem Value} {k k' : K2} (h : OpD F f k) (i : ∀ x y Q, k' x y Q → k x y Q) : OpD F f k' := by
  obtain ⟨r, h1, h2⟩ := h
  exact ⟨r, h1, fun B σ H ρ Z x y dx dy Q Q' S rx ry hk q => h2 B σ H ρ Z x y dx dy Q Q' S rx ry (i _ _ _ hk) q⟩
theorem CallD.or {f : Value} {k k' : KN} (h : CallD F f k) (h' : CallD F f k') : CallD F f (fun x Q => k x Q ∨ k' x Q) := by
  obtain ⟨r, h1, h2⟩ := h
  obtain ⟨r', h1', h2'⟩ := h'
  refine ⟨_, fun i => (h1 i).or (h1' i), fun B σ H ρ Z xs ds Q Q' S rx hk q => ?_⟩
  rcases hk with hk | hk
  · exact .inl (h2 B σ H ρ Z xs ds Q Q' S rx hk q)
  · exact .inr (h2' B σ H ρ Z xs ds Q Q' S rx hk q)
theorem CallD.imp {f : Value} {k k' : KN} (h : CallD F f k) (i : ∀ x Q, k' x Q → k x Q) : CallD F f k' := by
  obtain ⟨r, h1, h2⟩ := h
  exact ⟨r, h1, fun B σ H ρ Z xs ds Q Q' S rx hk q => h2 B σ H ρ Z xs ds Q Q' S rx (i _ _ hk) q⟩

/-! ### argument lists -/
theorem rrs_nil : RRs F [] rsN := ⟨tNil, fun _ => pa_nil, fun B σ H ρ Z Q Q' E S X hw q => q [] [] H ρ Z S (fun _ _ z => z) .nil hw⟩
theorem rrs_cons {es : List Expr} {wa : WR} {wb : WRs} (ha : RR F e wa) (hb : RRs F es wb) (hs : ∀ i, starEach (e :: es) (F.X i).env = (false, eval e (F.X i).env) :: starEach es (F.X i).env := by intro _; rfl) : RRs F (e :: es) (rsC wa wb) := by
  obtain ⟨ta, a1, a2⟩ := ha
  obtain ⟨tb, b1, b2⟩ := hb
  refine ⟨_, fun i => pa_cons (a1 i) (b1 i) (hs i), fun B σ H ρ Z Q Q' E S X hw q => a2 B σ H ρ Z _ _ E S X hw fun x r1 H1 ρ1 Z1 S1 le1 o1 hw => b2 B σ H1 ρ1 Z1 _ _ E S1 X hw fun ys rs H2 ρ2 Z2 S2 le2 o2 hw => ?_⟩
  exact q (x :: ys) (r1 :: rs) H2 ρ2 Z2 S2 (le1.trans' le2) (.cons (o1.le le2) o2) hw
theorem rvs_nil : RVs F [] vsN := ⟨tNil, fun _ => pa_nil, fun B σ H ρ Z Q Q' E S X hw q => q [] [] H ρ Z S (fun _ _ z => z) .nil hw⟩
theorem rvs_cons {es : List Expr} {wa : WE} {wb : WVs} (ha : RE F e wa) (hb : RVs F es wb) (hs : ∀ i, starEach (e :: es) (F.X i).env = (false, eval e (F.X i).env) :: starEach es (F.X i).env := by intro _; rfl) : RVs F (e :: es) (vsC wa wb) := by
  obtain ⟨ta, a1, a2⟩ := ha
  obtain ⟨tb, b1, b2⟩ := hb
  refine ⟨_, fun i => pa_cons (a1 i) (b1 i) (hs i), fun B σ H ρ Z Q Q' E S X hw q => a2 B σ H ρ Z _ _ E S X hw fun x s H1 ρ1 Z1 S1 le1 hw => ?_⟩
  obtain ⟨d, hs, hw⟩ := fr_of hw
  obtain ⟨Z1', le1', S1', r⟩ := S1.thaw1 hs
  refine b2 B σ H1 ρ1 Z1' _ _ E S1' X hw fun ys ds H2 ρ2 Z2 S2 le2 o2 hw => ?_
  exact q (x :: ys) (d :: ds) H2 ρ2 Z2 S2 (le1.trans' (le1'.trans' le2)) (.cons (Rp.le le2 d x r) o2) hw
theorem line1000 : 1000 ≤ sizeLine := by rw [sizeLine_eq]; decide
theorem re_tup {es : List Expr} {x1 : Nat} {w : WVs} (h : RVs F es w) : RE F (.Tuple es x1 pos) (wTup w) := by
  obtain ⟨t, a1, a2⟩ := h
  refine ⟨_, fun i => pe_tup (a1 i), LE.of fun B σ H ρ Z Q Q' E S X hw q => a2 B σ H ρ Z _ _ E S X hw fun vs ds H1 ρ1 Z1 S1 le1 r ⟨hz, hw⟩ => ?_⟩
  refine ⟨by have := r.len; have := line1000; omega, fun p hp => ?_⟩
  obtain ⟨S2, le2⟩ := S1.allocZ (o := .tup vs) hp
  exact q _ _ _ _ _ (S2.have (.tup (.of upd_same) (RpL.le le2 _ _ r))) hw
theorem re_lst {es : List Expr} {w : WVs} (h : RVs F es w) : RE F (.List es pos) (wLst w) := by
  obtain ⟨t, a1, a2⟩ := h
  refine ⟨_, fun i => pe_lst (a1 i), LE.of fun B σ H ρ Z Q Q' E S X hw q => a2 B σ H ρ Z _ _ E S X hw fun vs ds H1 ρ1 Z1 S1 le1 r ⟨hz, hw⟩ => ?_⟩
  refine ⟨by have := r.len; have := line1000; omega, fun p hp => ?_⟩
  exact q _ _ _ _ _ (S1.alloc1 (o := .lst vs) (d := .lst ds) hp r) hw

/-! ### tests -/
theorem rt_v {w : WE} (h : RE F e w) (he : ∀ i whole, isTrue e (F.X i).env whole = (do let v ← whole; standAt e.pos; holding [v] (truthy v)) := by intro _ _; rfl) : RT F e (tV w) := by
  obtain ⟨t, a1, a2⟩ := h
  refine ⟨_, fun i => pt_val (a1 i) (he i), fun B σ H ρ Z Q Q' E S X hw q => a2 B σ H ρ Z _ _ E S X hw fun x s H1 ρ1 Z1 S1 le1 hw => ?_⟩
  cases s with
  | fz d =>
    cases d with
    | bl c =>
      have R := S1.rp
      obtain ⟨Z2, le2, S2, r⟩ := S1.thaw1 (.inl rfl)
      cases r
      exact ⟨c, rfl, q c H1 ρ1 Z2 S2 (le1.trans' le2) hw⟩
    | _ => exact (show False from hw).elim
  | _ => exact (show False from hw).elim
theorem rt_cmp {op : CmpOp} {k : K2} {wa wb : WR} (ho : OpD F (compareOp op) k) (ha : RR F a wa) (hb : RR F b wb) (hm : behindInMarks op b = false := by first | exact nobehind _ (by decide) (by decide) | rfl) : RT F (.Compare a [op] [b] pos) (tV (wOp k wa wb)) := by
  obtain ⟨r, h1, h2⟩ := ho
  obtain ⟨ta, a1, a2⟩ := ha
  obtain ⟨tb, b1, b2⟩ := hb
  refine ⟨_, fun i => pt_cmpR (h1 i) (a1 i) (b1 i) hm, fun B σ H ρ Z Q Q' E S X hw q => two_ok a2 b2 h2 B σ H ρ Z _ _ E S X hw fun x s H1 ρ1 Z1 S1 le1 hw => ?_⟩
  cases s with
  | fz d =>
    cases d with
    | bl c =>
      obtain ⟨Z2, le2, S2, r⟩ := S1.thaw1 (.inl rfl)
      cases r
      exact ⟨c, rfl, q c H1 ρ1 Z2 S2 (le1.trans' le2) hw⟩
    | _ => exact (show False from hw).elim
  | _ => exact (show False from hw).elim
theorem rt_not {t : WT} (h : RT F a t) : RT F (.UnaryOp .Not a pos) (tNot t) := by
  obtain ⟨t', a1, a2⟩ := h
  exact ⟨_, fun i => pt_not (a1 i), fun B σ H ρ Z Q Q' E S X hw q => a2 B σ H ρ Z _ _ E S X hw fun b H1 ρ1 Z1 S1 le1 hw => q _ H1 ρ1 Z1 S1 le1 hw⟩
theorem rw_t {t : WT} (h : RW F e t) : RT F e t := by
  obtain ⟨t', a1, a2⟩ := h
  exact ⟨t', fun i => (a1 i).pt, a2⟩
theorem rw_and1 {t : WT} (h : RT F a t) : RW F (.BoolOp .And [a] pos) t := by
  obtain ⟨t', a1, a2⟩ := h
  exact ⟨t', fun i => pw_and1 (a1 i), a2⟩
theorem rw_or1 {t : WT} (h : RT F a t) : RW F (.BoolOp .Or [a] pos) t := by
  obtain ⟨t', a1, a2⟩ := h
  exact ⟨t', fun i => pw_or1 (a1 i), a2⟩
theorem lt_and {t u : TT} {w x : WT} (a2 : LT F t w) (b2 : LT F u x) : LT F (L2.tAnd t u) (tAnd w x) := fun B σ H ρ Z Q Q' E S X hw q => a2 B σ H ρ Z _ _ E S X hw fun b H1 ρ1 Z1 S1 le1 hw => by
  cases b with
  | true => exact b2 B σ H1 ρ1 Z1 _ _ E S1 X hw fun b H2 ρ2 Z2 S2 le2 hw => q b H2 ρ2 Z2 S2 (le1.trans' le2) hw
  | false => exact q false H1 ρ1 Z1 S1 le1 hw
theorem lt_or {t u : TT} {w x : WT} (a2 : LT F t w) (b2 : LT F u x) : LT F (L2.tOr t u) (tOr w x) := fun B σ H ρ Z Q Q' E S X hw q => a2 B σ H ρ Z _ _ E S X hw fun b H1 ρ1 Z1 S1 le1 hw => by
  cases b with
  | false => exact b2 B σ H1 ρ1 Z1 _ _ E S1 X hw fun b H2 ρ2 Z2 S2 le2 hw => q b H2 ρ2 Z2 S2 (le1.trans' le2) hw
  | true => exact q true H1 ρ1 Z1 S1 le1 hw
theorem rw_and {t u : WT} {rest : List Expr} (h : RT F a t) (h' : RW F (.BoolOp .And (b :: rest) pos) u) : RW F (.BoolOp .And (a :: b :: rest) pos) (tAnd t u) := by
  obtain ⟨t', a1, a2⟩ := h
  obtain ⟨u', b1, b2⟩ := h'
  exact ⟨_, fun i => pw_and (a1 i) (b1 i), lt_and a2 b2⟩
theorem rw_or {t u : WT} {rest : List Expr} (h : RT F a t) (h' : RW F (.BoolOp .Or (b :: rest) pos) u) : RW F (.BoolOp .Or (a :: b :: rest) pos) (tOr t u) := by
  obtain ⟨t', a1, a2⟩ := h
  obtain ⟨u', b1, b2⟩ := h'
  exact ⟨_, fun i => pw_or (a1 i) (b1 i), lt_or a2 b2⟩
/-- and, or as values -/
theorem re_one {op : BoolOp} {w : WE} (h : RE F a w) : RE F (.BoolOp op [a] pos) w := by
  obtain ⟨t', a1, a2⟩ := h
  exact ⟨t', fun i => pe_one (a1 i), a2⟩
theorem re_and {w u : WE} {rest : List Expr} (h : RE F a w) (h' : RE F (.BoolOp .And (b :: rest) pos) u) : RE F (.BoolOp .And (a :: b :: rest) pos) (wAnd w u) := by
  obtain ⟨t', a1, a2⟩ := h
  obtain ⟨u', b1, b2⟩ := h'
  refine ⟨_, fun i => pe_and (a1 i) (b1 i), fun B σ H ρ Z Q Q' E S X hw q => a2 B σ H ρ Z _ _ E S X hw fun x s H1 ρ1 Z1 S1 le1 hw => ?_⟩
  cases s with
  | fz d =>
    cases d with
    | bl c =>
      obtain ⟨Z2, le2, S2, r⟩ := S1.thaw1 (.inl rfl)
      cases r
      refine ⟨c, rfl, ?_⟩
      cases c with
      | true => exact b2 B σ H1 ρ1 Z2 _ _ E S2 X hw fun v s H3 ρ3 Z3 S3 le3 hw => q v s H3 ρ3 Z3 S3 (le1.trans' (le2.trans' le3)) hw
      | false => exact q _ _ H1 ρ1 Z2 (S2.have (.bl false)) (le1.trans' le2) hw
    | _ => exact (show False from hw).elim
  | _ => exact (show False from hw).elim
theorem re_or {w u : WE} {rest : List Expr} (h : RE F a w) (h' : RE F (.BoolOp .Or (b :: rest) pos) u) : RE F (.BoolOp .Or (a :: b :: rest) pos) (wOr w u) := by
  obtain ⟨t', a1, a2⟩ := h
  obtain ⟨u', b1, b2⟩ := h'
  refine ⟨_, fun i => pe_or (a1 i) (b1 i), fun B σ H ρ Z Q Q' E S X hw q => a2 B σ H ρ Z _ _ E S X hw fun x s H1 ρ1 Z1 S1 le1 hw => ?_⟩
  cases s with
  | fz d =>
    cases d with
    | bl c =>
      obtain ⟨Z2, le2, S2, r⟩ := S1.thaw1 (.inl rfl)
      cases r
      refine ⟨c, rfl, ?_⟩
      cases c with
      | false => exact b2 B σ H1 ρ1 Z2 _ _ E S2 X hw fun v s H3 ρ3 Z3 S3 le3 hw => q v s H3 ρ3 Z3 S3 (le1.trans' (le2.trans' le3)) hw
      | true => exact q _ _ H1 ρ1 Z2 (S2.have (.bl true)) (le1.trans' le2) hw
    | _ => exact (show False from hw).elim
  | _ => exact (show False from hw).elim
theorem re_not {w : WE} (h : RE F a w) : RE F (.UnaryOp .Not a pos) (wNot w) := by
  obtain ⟨t', a1, a2⟩ := h
  refine ⟨_, fun i => pe_not (a1 i), fun B σ H ρ Z Q Q' E S X hw q => a2 B σ H ρ Z _ _ E S X hw fun x s H1 ρ1 Z1 S1 le1 hw => ?_⟩
  cases s with
  | fz d =>
    cases d with
    | bl c =>
      obtain ⟨Z2, le2, S2, r⟩ := S1.thaw1 (.inl rfl)
      cases r
      exact ⟨c, rfl, q _ _ H1 ρ1 Z2 (S2.have (.bl _)) (le1.trans' le2) hw⟩
    | _ => exact (show False from hw).elim
  | _ => exact (show False from hw).elim
theorem re_if {c : Expr} {t : WT} {w u : WE} (hc : RT F c t) (h : RE F a w) (h' : RE F b u) : RE F (.IfExp c a b pos) (wIf t w u) := by
  obtain ⟨tc, c1, c2⟩ := hc
  obtain ⟨t', a1, a2⟩ := h
  obtain ⟨u', b1, b2⟩ := h'
  refine ⟨_, fun i => pe_ifExp (c1 i) (a1 i) (b1 i), fun B σ H ρ Z Q Q' E S X hw q => c2 B σ H ρ Z _ _ E S X hw fun b H1 ρ1 Z1 S1 le1 hw => ?_⟩
  cases b with
  | true => exact a2 B σ H1 ρ1 Z1 _ _ E S1 X hw fun v s H3 ρ3 Z3 S3 le3 hw => q v s H3 ρ3 Z3 S3 (le1.trans' le3) hw
  | false => exact b2 B σ H1 ρ1 Z1 _ _ E S1 X hw fun v s H3 ρ3 Z3 S3 le3 hw => q v s H3 ρ3 Z3 S3 (le1.trans' le3) hw
end
end Pu

set_option Elab.async false
set_option linter.all false
set_option maxRecDepth 100000
/-! Pu, statements, targets, loops, comprehensions. -/
namespace Pu
open PySem L2

section
variable {F : Fm} {K : PySem.W.Frag} {B : Bs} {σ : L2.St} {H H' : Hp} {ρ : En} {Z Z' : Hp} {E : EX} {e a b : Expr} {pos : Pos}

/-! ### forgetting -/
/-- an entry is forgotten, or told anew by what stays -/
def Wk (K : PySem.W.Frag) (Z : Hp) (e e' : Ent) : Prop := e' = e ∨ e'.2 = .un ∨ ∃ u d, e' = (some u, .fz d) ∧ Rp K Z u d
theorem Reps.weak {es es' : List Ent} (h : Paired (Wk K Z) es es') (R : Reps K B Z H es) : Reps K B Z H es' := by
  obtain ⟨fps, p, nd⟩ := R
  have main : ∀ {es es' : List Ent}, Paired (Wk K Z) es es' → ∀ {fps : List (List Addr)}, Paired (fun (e : Ent) fp => SlR K B Z H e.1 fp e.2) es fps → fps.flatten.Nodup →
      ∃ fps', Paired (fun (e : Ent) fp => SlR K B Z H e.1 fp e.2) es' fps' ∧ fps'.flatten.Nodup ∧ ∀ a ∈ fps'.flatten, a ∈ fps.flatten := by
    intro es es' h
    induction h with
    | nil =>
      intro fps p nd
      cases p
      exact ⟨[], .nil, by simp, fun _ m => m⟩
    | cons w t ih =>
      intro fps p nd
      cases p with
      | cons q p =>
        rename_i e e' _ _ g gs
        rw [List.flatten_cons] at nd
        obtain ⟨n1, n2, d⟩ := nodup_app nd
        obtain ⟨gs', p', n', s'⟩ := ih p n2
        have emp : SlR K B Z H e'.1 [] e'.2 → ∃ fps', Paired (fun (e : Ent) fp => SlR K B Z H e.1 fp e.2) (e' :: _) fps' ∧ fps'.flatten.Nodup ∧ ∀ a ∈ fps'.flatten, a ∈ (g :: gs).flatten := fun q' =>
          ⟨[] :: gs', .cons q' p', by simpa using n', fun a m => by
            rw [List.flatten_cons] at m ⊢
            exact List.mem_append_right _ (s' a (by simpa using m))⟩
        rcases w with rfl | w | ⟨u, d', rfl, r⟩
        · refine ⟨g :: gs', .cons q p', ?_, fun a m => ?_⟩
          · rw [List.flatten_cons]
            exact List.nodup_append.mpr ⟨n1, n', fun a ha b hb ab => d a ha (s' a (ab ▸ hb))⟩
          · rw [List.flatten_cons] at m ⊢
            rcases List.mem_append.mp m with m | m
            · exact List.mem_append_left _ m
            · exact List.mem_append_right _ (s' a m)
        · exact emp (by rw [w]; rfl)
        · exact emp ⟨rfl, u, rfl, r⟩
  obtain ⟨fps', p', n', _⟩ := main h p nd
  exact ⟨fps', p', n'⟩
theorem pd_ix {α β : Type} {G : α → β → Prop} : ∀ {l : List α} {r : List β}, l.length = r.length → (∀ (i : Nat) a b, l[i]? = some a → r[i]? = some b → G a b) → Paired G l r
  | [], [], _, _ => .nil
  | a :: l, b :: r, hl, h => .cons (h 0 a b rfl rfl) (pd_ix (by simpa using hl) fun i x y e1 e2 => h (i + 1) x y (by simpa using e1) (by simpa using e2))
  | [], _ :: _, hl, _ => by simp at hl
  | _ :: _, [], hl, _ => by simp at hl
/-- other slots, slot by slot -/
theorem St1.weak {σ' : L2.St} {ρ' : En} {tmp : List (V × Sl)} (S : St1 K B σ H ρ Z tmp) (hs : σ'.length = σ.length) (hr : ρ'.length = ρ.length)
    (h : ∀ (i : Nat) v v' s s', σ[i]? = some v → σ'[i]? = some v' → ρ[i]? = some s → ρ'[i]? = some s' → Wk K Z (v, s) (v', s')) : St1 K B σ' H ρ' Z tmp := by
  refine ⟨by rw [hs, hr]; exact S.len, S.sub, S.zn, S.zo, S.fx, S.dm, S.rp.weak (pd_app ?_ ?_)⟩
  · have hl := S.len
    refine pd_ix (by simp [hs, hr]) fun i x y e1 e2 => ?_
    obtain ⟨v, s⟩ := x
    obtain ⟨v', s'⟩ := y
    rw [List.getElem?_zip_eq_some] at e1 e2
    exact h i v v' s s' e1.1 e2.1 e1.2 e2.2
  · exact pd_ix rfl fun i x y e1 e2 => by rw [e1] at e2; cases e2; exact .inl rfl
theorem wipeE_len : ∀ {ρ : En} (vs : List Nat), (wipeE ρ vs).length = ρ.length
  | _, [] => rfl
  | ρ, v :: vs => by unfold wipeE; rw [List.length_set, wipeE_len vs]
theorem backE_len {ρ0 : En} : ∀ {ρ : En} (vs : List Nat), (backE ρ0 ρ vs).length = ρ.length
  | _, [] => rfl
  | ρ, v :: vs => by unfold backE; rw [List.length_set, backE_len vs]
theorem wipe_in {i : Nat} : ∀ {vs : List Nat}, i ∈ vs → i < σ.length → (wipe σ vs)[i]? = some none
  | v :: vs, m, hl => by
    unfold wipe
    by_cases hv : v = i
    · subst hv
      exact List.getElem?_set_self (by rw [wipe_length]; exact hl)
    · rw [List.getElem?_set_ne hv]
      rcases List.mem_cons.mp m with z | z
      · exact absurd z.symm hv
      · exact wipe_in z hl
theorem wipeE_in {i : Nat} : ∀ {ρ : En} {vs : List Nat}, i ∈ vs → i < ρ.length → (wipeE ρ vs)[i]? = some .un
  | ρ, v :: vs, m, hl => by
    unfold wipeE
    by_cases hv : v = i
    · subst hv
      exact List.getElem?_set_self (by rw [wipeE_len]; exact hl)
    · rw [List.getElem?_set_ne hv]
      rcases List.mem_cons.mp m with z | z
      · exact absurd z.symm hv
      · exact wipeE_in z hl
theorem wipeE_out {i : Nat} : ∀ {ρ : En} {vs : List Nat}, i ∉ vs → (wipeE ρ vs)[i]? = ρ[i]?
  | _, [], _ => rfl
  | ρ, v :: vs, h => by
    have h1 : v ≠ i := fun e => h (by rw [e]; exact List.mem_cons_self)
    unfold wipeE
    rw [List.getElem?_set_ne h1]
    exact wipeE_out fun m => h (List.mem_cons_of_mem _ m)
theorem backE_in {ρ0 : En} {i : Nat} : ∀ {ρ : En} {vs : List Nat}, i ∈ vs → i < ρ.length → (backE ρ0 ρ vs)[i]? = some ((ρ0[i]?).getD .un).keep
  | ρ, v :: vs, m, hl => by
    unfold backE
    by_cases hv : v = i
    · subst hv
      exact List.getElem?_set_self (by rw [backE_len]; exact hl)
    · rw [List.getElem?_set_ne hv]
      rcases List.mem_cons.mp m with z | z
      · exact absurd z.symm hv
      · exact backE_in z hl
theorem backE_out {ρ0 : En} {i : Nat} : ∀ {ρ : En} {vs : List Nat}, i ∉ vs → (backE ρ0 ρ vs)[i]? = ρ[i]?
  | _, [], _ => rfl
  | ρ, v :: vs, h => by
    have h1 : v ≠ i := fun e => h (by rw [e]; exact List.mem_cons_self)
    unfold backE
    rw [List.getElem?_set_ne h1]
    exact backE_out fun m => h (List.mem_cons_of_mem _ m)
theorem lt_of_get {α : Type} {l : List α} {i : Nat} {x : α} (e : l[i]? = some x) : i < l.length := (List.getElem?_eq_some_iff.mp e).1
theorem St1.wipe {tmp : List (V × Sl)} (S : St1 K B σ H ρ Z tmp) (vs : List Nat) : St1 K B (L2.wipe σ vs) H (wipeE ρ vs) Z tmp := by
  refine S.weak (wipe_length σ vs) (wipeE_len vs) fun i v v' s s' e1 e2 e3 e4 => ?_
  by_cases m : i ∈ vs
  · rw [wipeE_in m (lt_of_get e3)] at e4
    cases e4
    exact .inr (.inl rfl)
  · rw [L2.wipe_out m, e1] at e2
    rw [wipeE_out m, e3] at e4
    cases e2; cases e4
    exact .inl rfl
/-- back from a block -/
theorem St1.unwipe {ρ0 : En} {Z0 H0 : Hp} {vs : List Nat} {tmp : List (V × Sl)} (S0 : St1 K B σ H0 ρ0 Z0 []) (S : St1 K B (L2.wipe σ vs) H ρ Z tmp) (k : Le Z0 Z) : St1 K B σ H (backE ρ0 ρ vs) Z tmp := by
  refine S.weak (wipe_length σ vs).symm (backE_len vs) fun i v v' s s' e1 e2 e3 e4 => ?_
  by_cases m : i ∈ vs
  · rw [backE_in m (lt_of_get e3)] at e4
    cases e4
    cases e5 : ρ0[i]? with
    | none => exact .inr (.inl rfl)
    | some s0 =>
      cases s0 with
      | fz d =>
        obtain ⟨v0, g, e6, q⟩ := S0.slot e5
        obtain ⟨_, u, e7, r⟩ := q
        rw [e2] at e6
        cases e6
        exact .inr (.inr ⟨u, d, by rw [e7]; rfl, Rp.le k d u r⟩)
      | _ => exact .inr (.inl rfl)
  · rw [L2.wipe_out m, e2] at e1
    rw [backE_out m, e3] at e4
    cases e1; cases e4
    exact .inl rfl
theorem wipe_wipe (vs : List Nat) : L2.wipe (L2.wipe σ vs) vs = L2.wipe σ vs := by
  apply List.ext_getElem?
  intro i
  by_cases m : i ∈ vs
  · by_cases hl : i < σ.length
    · rw [wipe_in m (by rw [wipe_length]; exact hl), wipe_in m hl]
    · rw [List.getElem?_eq_none (by rw [wipe_length, wipe_length]; omega), List.getElem?_eq_none (by rw [wipe_length]; omega)]
  · rw [L2.wipe_out m]
theorem wipe_set {i : Nat} {vs : List Nat} {x : Option V} (m : i ∈ vs) : L2.wipe (σ.set i x) vs = L2.wipe σ vs := by
  apply List.ext_getElem?
  intro j
  by_cases mj : j ∈ vs
  · by_cases hl : j < σ.length
    · rw [wipe_in mj (by rw [List.length_set]; exact hl), wipe_in mj hl]
    · rw [List.getElem?_eq_none (by rw [wipe_length, List.length_set]; omega), List.getElem?_eq_none (by rw [wipe_length]; omega)]
  · rw [L2.wipe_out mj, L2.wipe_out mj, List.getElem?_set_ne (show i ≠ j from fun e => mj (by rw [← e]; exact m))]
/-- an own object at hand is written -/
theorem St1.writeT {a : Addr} {d : D} (S : St1 K B σ H ρ Z [(.ref a, .ow d)]) : ∃ o, H a = some o ∧ RpO K Z o d ∧ ∀ o' d', RpO K Z o' d' → St1 K B σ (upd H a o') ρ Z [(.ref a, .ow d')] := by
  have R := S.rp
  have R : Reps K B Z H (σ.zip ρ ++ (some (V.ref a), Sl.ow d) :: []) := R
  obtain ⟨g, q, nd, put⟩ := Reps.at R
  obtain ⟨a', o, e, rfl, z, f, h0, ha, ro⟩ := q
  have e : some (V.ref a) = some (V.ref a') := e
  cases e
  refine ⟨o, ha, ro, fun o' d' r' => ⟨S.len, fun b u eb => upd_some (S.sub _ _ eb) (ne_of_none eb z), S.zn, S.zo, fun b u eb => upd_some (S.fx _ _ eb) (ne_of_none eb f), fun b eb => ?_, ?_⟩⟩
  · by_cases ap : b = a
    · rw [ap, upd_same]; simp
    · rw [upd_ne ap]; exact S.dm b eb
  · exact put B Z _ (some (.ref a), .ow d') [a] ⟨fun _ _ e => e, fun _ _ _ _ z _ => z, fun _ _ _ _ _ f => f, fun _ _ _ _ z => z, fun b u eb nb _ _ => upd_some eb (by simpa using nb), rfl⟩ ⟨a, o', rfl, rfl, z, f, h0, upd_same, r'⟩ (by simp) (fun b m => .inl m)

/-! ### targets -/
theorem rg_n (k : Nat) {x : Str} {vs : List Nat} (m : k ∈ vs) (hN : ∀ i, (F.X i).N[k]? = some x := by intro _; rfl) (hx : ∀ i, Loc (F.X i).env.scope x := by intro _; first | exact Or.inl rfl | exact Or.inr rfl)
    (hf : ∀ i, (F.X i).fn x = true ∨ (F.X i).env.scope.names.lookup x = some .local := by intro _; first | exact Or.inl rfl | exact Or.inr rfl) : RG F (.Name x pos) (gN k) vs :=
  ⟨gName k, fun i => pg_name (F.nd i) (hN i) (hx i) (hf i), fun B σ H ρ Z v s Q Q' S hw q => q _ H _ Z S.store (fun _ _ z => z) (wipe_set m) hw⟩
theorem rgs_nil {vs : List Nat} : RGs F [] gsN vs :=
  ⟨gNil, fun i => pgs_nil, fun B σ H ρ Z us ds Q Q' S r hw q => by
    cases ds with
    | nil => cases r; exact ⟨rfl, q σ H ρ Z S (fun _ _ z => z) rfl hw⟩
    | cons _ _ => exact (show False from hw).elim⟩
theorem rgs_cons {es : List Expr} {g : WG} {gs : WGs} {vs : List Nat} (h1 : RG F e g vs) (h2 : RGs F es gs vs) (hs : ∀ i, (assignEach (e :: es) (F.X i).env).map (·.2) = assign e (F.X i).env :: (assignEach es (F.X i).env).map (·.2) := by intro _; rfl) : RGs F (e :: es) (gsC g gs) vs := by
  obtain ⟨t, a1, a2⟩ := h1
  obtain ⟨u, b1, b2⟩ := h2
  refine ⟨_, fun i => pgs_cons (a1 i) (b1 i) (hs i), fun B σ H ρ Z us ds Q Q' S r hw q => ?_⟩
  cases ds with
  | nil => exact (show False from hw).elim
  | cons d ds =>
    cases r with
    | cons r rs =>
      refine ⟨_, _, rfl, a2 B σ H ρ Z _ (.fz d) _ _ (S.have r) hw fun σ1 H1 ρ1 Z1 S1 le1 w1 hw => ?_⟩
      exact b2 B σ1 H1 ρ1 Z1 _ _ _ _ S1 (RpL.le le1 _ _ rs) hw fun σ2 H2 ρ2 Z2 S2 le2 w2 hw => q σ2 H2 ρ2 Z2 S2 (le1.trans' le2) (w2.trans w1) hw
theorem rg_t {es : List Expr} {kk n : Nat} {gs : WGs} {vs : List Nat} (h : RGs F es gs vs) (hl : ∀ B σ H ρ Z us ds Q, St1 F.K B σ H ρ Z [] → RpL F.K Z us ds → gs ds ρ Q → us.length = n) (hn : ∀ i, (assignEach es (F.X i).env).length = n := by intro _; rfl) (hst : ∀ i, (assignEach es (F.X i).env).findIdx? (·.1) = none := by intro _; rfl) :
    RG F (.Tuple es kk pos) (gT gs) vs := by
  obtain ⟨t, a1, a2⟩ := h
  refine ⟨gTup F.K n t, fun i => by rw [← F.hK i]; exact pg_tup (F.calm i) (a1 i) (hn i) (hst i), fun B σ H ρ Z v s Q Q' S hw q => ?_⟩
  cases s with
  | fz d =>
    cases d with
    | tup ds =>
      obtain ⟨Z1, le1, S1, r⟩ := S.thaw1 (.inl rfl)
      cases r with
      | tup hz rl => exact ⟨_, _, rfl, .inl (rd_le hz S1.sub), hl _ _ _ _ _ _ _ _ S1 rl hw, a2 B σ H ρ Z1 _ _ _ _ S1 rl hw fun σ2 H2 ρ2 Z2 S2 le2 w2 hw => q σ2 H2 ρ2 Z2 S2 (le1.trans' le2) w2 hw⟩
    | _ => exact (show False from hw).elim
  | _ => exact (show False from hw).elim
theorem gs_len0 {us : List V} {ds : List D} {Q : En → Prop} (r : RpL K Z us ds) (h : gsN ds ρ Q) : us.length = 0 := by
  cases ds with
  | nil => cases r; rfl
  | cons _ _ => exact (show False from h).elim
/-- (a, b) of names -/
theorem rg_t2 {e1 e2 : Expr} {kk i j : Nat} {vs : List Nat} (h : RGs F [e1, e2] (gsC (gN i) (gsC (gN j) gsN)) vs) (hn : ∀ i, (assignEach [e1, e2] (F.X i).env).length = 2 := by intro _; rfl) (hst : ∀ i, (assignEach [e1, e2] (F.X i).env).findIdx? (·.1) = none := by intro _; rfl) :
    RG F (.Tuple [e1, e2] kk pos) (gT (gsC (gN i) (gsC (gN j) gsN))) vs := by
  refine rg_t h (fun B σ H ρ Z us ds Q S r hw => ?_) hn hst
  cases r with
  | nil => exact (show False from hw).elim
  | cons _ r =>
    cases r with
    | nil => exact (show False from hw).elim
    | cons _ r =>
      cases r with
      | nil => rfl
      | cons _ _ => exact (show False from hw).elim
theorem rg_t3 {e1 e2 e3 : Expr} {kk i j k : Nat} {vs : List Nat} (h : RGs F [e1, e2, e3] (gsC (gN i) (gsC (gN j) (gsC (gN k) gsN))) vs) (hn : ∀ i, (assignEach [e1, e2, e3] (F.X i).env).length = 3 := by intro _; rfl) (hst : ∀ i, (assignEach [e1, e2, e3] (F.X i).env).findIdx? (·.1) = none := by intro _; rfl) :
    RG F (.Tuple [e1, e2, e3] kk pos) (gT (gsC (gN i) (gsC (gN j) (gsC (gN k) gsN)))) vs := by
  refine rg_t h (fun B σ H ρ Z us ds Q S r hw => ?_) hn hst
  cases r with
  | nil => exact (show False from hw).elim
  | cons _ r =>
    cases r with
    | nil => exact (show False from hw).elim
    | cons _ r =>
      cases r with
      | nil => exact (show False from hw).elim
      | cons _ r =>
        cases r with
        | nil => rfl
        | cons _ _ => exact (show False from hw).elim

/-! ### statements -/
variable {st : Stmt} {rest body : List Stmt}
theorem EnOk.of {B' : Bs} {D : Ends} {C : EndD} (h : EnOk F B D C) (k : ∀ σ' H' ρ' Z' tmp, St1 F.K B' σ' H' ρ' Z' tmp → St1 F.K B σ' H' ρ' Z' tmp ∧ Le Z Z') : EnOk F B' D C :=
  ⟨fun σ H ρ Z S q => h.nx σ H ρ Z (k _ _ _ _ _ S).1 q, fun σ v s H ρ Z S q => h.rt σ v s H ρ Z (k _ _ _ _ _ S).1 q, fun σ H ρ Z S q => h.bk σ H ρ Z (k _ _ _ _ _ S).1 q, fun σ H ρ Z S q => h.ct σ H ρ Z (k _ _ _ _ _ S).1 q, h.ex.of k⟩
theorem rss_nil : RSs F [] wPass := ⟨tNext, fun _ => pss_nil, fun B σ H ρ Z D C S O hw => O.nx σ H ρ Z S hw⟩
theorem rss_one {w : WS} (h : RS F st w) : RSs F [st] w := by
  obtain ⟨t, a1, a2⟩ := h
  exact ⟨t, fun i => pss_one (a1 i), a2⟩
theorem rss_cons {w u : WS} (h : RS F st w) (h' : RSs F rest u) : RSs F (st :: rest) (wSeq w u) := by
  obtain ⟨t, a1, a2⟩ := h
  obtain ⟨t', b1, b2⟩ := h'
  exact ⟨_, fun i => pss_cons (a1 i) (b1 i), fun B σ H ρ Z D C S O hw => a2 B σ H ρ Z _ { C with nx := u C } S ⟨fun σ1 H1 ρ1 Z1 S1 q => b2 B σ1 H1 ρ1 Z1 D C S1 O q, O.rt, O.bk, O.ct, O.ex⟩ hw⟩
theorem rs_never : RS F st wNever := ⟨_, fun _ => ps_never, fun B σ H ρ Z D C S O hw => (show False from hw).elim⟩
theorem rss_never : RSs F rest wNever := ⟨_, fun _ => pss_never, fun B σ H ρ Z D C S O hw => (show False from hw).elim⟩
theorem rs_pass : RS F (.Pass pos) wPass := ⟨tNext, fun _ => ps_pass, fun B σ H ρ Z D C S O hw => O.nx σ H ρ Z S hw⟩
theorem rs_brk : RS F (.Break pos) wBrk := ⟨tBreak, fun _ => ps_break, fun B σ H ρ Z D C S O hw => O.bk σ H ρ Z S hw⟩
theorem rs_cnt : RS F (.Continue pos) wCnt := ⟨tCont, fun _ => ps_continue, fun B σ H ρ Z D C S O hw => O.ct σ H ρ Z S hw⟩
theorem rs_drop {w : WE} (h : RE F e w) (hs : ∀ i, swapsWith e none pos.line (F.X i).env = pure false := by intro _; rfl) : RS F (.Expr e pos) (wDrop w) := by
  obtain ⟨t, a1, a2⟩ := h
  exact ⟨_, fun i => ps_expr (a1 i) (hs i), fun B σ H ρ Z D C S O hw => a2 B σ H ρ Z _ _ _ S O.ex hw fun v s H1 ρ1 Z1 S1 _ hw => O.nx σ H1 ρ1 Z1 S1.drop hw⟩
theorem rs_ret {w : WE} (h : RE F e w) : RS F (.Return (some e) pos) (wRet w) := by
  obtain ⟨t, a1, a2⟩ := h
  exact ⟨_, fun i => ps_ret (a1 i), fun B σ H ρ Z D C S O hw => a2 B σ H ρ Z _ _ _ S O.ex hw fun v s H1 ρ1 Z1 S1 _ hw => O.rt σ v s H1 ρ1 Z1 S1 hw⟩
theorem rs_retN : RS F (.Return none pos) wRetN := ⟨_, fun _ => ps_retN, fun B σ H ρ Z D C S O hw => O.rt σ _ _ H ρ Z (S.have .non) hw⟩
theorem rs_if {c : Expr} {l1 l2 : List Stmt} {t : WT} {w u : WS} (hc : RT F c t) (h : RSs F l1 w) (h' : RSs F l2 u) : RS F (.If c l1 l2 pos) (wIfS t w u) := by
  obtain ⟨tc, c1, c2⟩ := hc
  obtain ⟨t1, a1, a2⟩ := h
  obtain ⟨t2, b1, b2⟩ := h'
  refine ⟨_, fun i => ps_if (c1 i) (a1 i) (b1 i), fun B σ H ρ Z D C S O hw => c2 B σ H ρ Z _ _ _ S O.ex hw fun b H1 ρ1 Z1 S1 _ hw => ?_⟩
  cases b with
  | true => exact a2 B σ H1 ρ1 Z1 D C S1 O hw
  | false => exact b2 B σ H1 ρ1 Z1 D C S1 O hw
/-- name = value -/
theorem rs_set (k : Nat) {x : Str} {w : WE} {pos' : Pos} (h : RE F e w) (hN : ∀ i, (F.X i).N[k]? = some x := by intro _; rfl) (hx : ∀ i, Loc (F.X i).env.scope x := by intro _; first | exact Or.inl rfl | exact Or.inr rfl)
    (hs : ∀ i, swapsWith e (some (.Name x pos')) pos.line (F.X i).env = pure false := by intro _; rfl) (hf : ∀ i, (F.X i).fn x = true ∨ (F.X i).env.scope.names.lookup x = some .local := by intro _; first | exact Or.inl rfl | exact Or.inr rfl) :
    RS F (.Assign [.Name x pos'] e pos) (wSet k w) := by
  obtain ⟨t, a1, a2⟩ := h
  exact ⟨_, fun i => ps_set (F.nd i) (hN i) (hx i) (a1 i) (hs i) (hf i), fun B σ H ρ Z D C S O hw => a2 B σ H ρ Z _ _ _ S O.ex hw fun v s H1 ρ1 Z1 S1 _ hw => O.nx _ H1 _ Z1 S1.store hw⟩
theorem rs_asg {tg : Expr} {w : WE} {g : WG} {vs : List Nat} (h : RE F e w) (hg : RG F tg g vs) (hs : ∀ i, swapsWithSole [tg] e pos.line (F.X i).env = pure false := by intro _; rfl) (hw : ∀ i, swappedStores [tg] e (F.X i).env = pure none := by intro _; rfl)
    (h1 : ∀ i, (assignEach [tg] (F.X i).env).map (·.2) = [assign tg (F.X i).env] := by intro _; rfl) : RS F (.Assign [tg] e pos) (wAsg g w) := by
  obtain ⟨t, a1, a2⟩ := h
  obtain ⟨u, b1, b2⟩ := hg
  exact ⟨_, fun i => ps_asg (a1 i) (b1 i) (hs i) (hw i) (h1 i), fun B σ H ρ Z D C S O hw => a2 B σ H ρ Z _ _ _ S O.ex hw fun v s H1 ρ1 Z1 S1 _ hw => b2 B σ H1 ρ1 Z1 v s _ _ S1 hw fun σ2 H2 ρ2 Z2 S2 _ _ hw => O.nx σ2 H2 ρ2 Z2 S2 hw⟩

/-! ### several values at hand -/
def LHs (F : Fm) (t : TA) (w : WHs) (n : Nat) : Prop := ∀ B σ H ρ Z Q Q' E, St1 F.K B σ H ρ Z [] → ExOk F B E → w E ρ Q' → (∀ vs ss H' ρ' Z', vs.length = n → ss.length = n → St1 F.K B σ H' ρ' Z' (vs.zip ss) → Q' ss ρ' → Q vs H') → t σ H Q
def RHs (F : Fm) (es : List Expr) (w : WHs) (n : Nat) : Prop := ∃ t, (∀ i, PA (F.X i) es t) ∧ LHs F t w n
theorem vl_of {Q : Prop} {s : Sl} (h : s.vl Q) : ((∃ d, s = .fz d) ∨ ∃ d, s = .ow d) ∧ Q := by
  cases s with
  | fz d => exact ⟨.inl ⟨d, rfl⟩, h⟩
  | ow d => exact ⟨.inr ⟨d, rfl⟩, h⟩
  | _ => exact (show False from h).elim
theorem rhs_nil : RHs F [] hsN 0 := ⟨tNil, fun _ => pa_nil, fun B σ H ρ Z Q Q' E S X hw q => q [] [] H ρ Z rfl rfl S hw⟩
theorem rhs_cons {es : List Expr} {wa : WE} {wb : WHs} {n : Nat} (ha : RE F e wa) (hb : RHs F es wb n) (hs : ∀ i, starEach (e :: es) (F.X i).env = (false, eval e (F.X i).env) :: starEach es (F.X i).env := by intro _; rfl) : RHs F (e :: es) (hsC wa wb) (n + 1) := by
  obtain ⟨ta, a1, a2⟩ := ha
  obtain ⟨tb, b1, b2⟩ := hb
  refine ⟨_, fun i => pa_cons (a1 i) (b1 i) (hs i), fun B σ H ρ Z Q Q' E S X hw q => a2 B σ H ρ Z _ _ E S X hw fun x s H1 ρ1 Z1 S1 le1 hw => ?_⟩
  obtain ⟨hv, hw⟩ := vl_of hw
  obtain ⟨B', S', back⟩ := S1.hold hv
  have X' : ExOk F B' E := fun σ' H' ρ' Z' C dx v d S r rp qq => X σ' H' ρ' Z' C dx v d (back _ _ _ _ _ S).1.drop r rp qq
  refine b2 B' σ H1 ρ1 Z1 _ _ E S' X' hw fun vs ss H2 ρ2 Z2 h1 h2 S2 hw => ?_
  exact q (x :: vs) (s :: ss) H2 ρ2 Z2 (by simp [h1]) (by simp [h2]) (back _ _ _ _ _ S2).1 hw
/-- stored from the left -/
def setV (σ : L2.St) : List Nat → List V → L2.St
  | i :: is, v :: vs => setV (σ.set i (some v)) is vs
  | _, _ => σ
theorem St1.storeAll : ∀ {is : List Nat} {vs : List V} {ss : List Sl} {σ : L2.St} {ρ : En}, vs.length = is.length → ss.length = is.length → St1 K B σ H ρ Z (vs.zip ss) → St1 K B (setV σ is vs) H (setAll ρ is ss) Z []
  | [], [], [], _, _, _, _, S => S
  | i :: is, v :: vs, s :: ss, _, _, h1, h2, S => St1.storeAll (is := is) (by simpa using h1) (by simpa using h2) (St1.store (i := i) S)
  | [], _ :: _, _, _, _, h1, _, _ => by simp at h1
  | [], [], _ :: _, _, _, _, h2, _ => by simp at h2
  | _ :: _, [], _, _, _, h1, _, _ => by simp at h1
  | _ :: _, _ :: _, [], _, _, _, h2, _ => by simp at h2
theorem rs_par {i j : Nat} {x y : Str} {px py pt : Pos} {kt k2 : Nat} {pt2 : Pos} {w : WHs} (h : RHs F [a, b] w 2) (hi : ∀ k, (F.X k).N[i]? = some x := by intro _; rfl) (hj : ∀ k, (F.X k).N[j]? = some y := by intro _; rfl) (hij : i ≠ j := by decide)
    (hx : ∀ k, (F.X k).env.scope.names.lookup x = some .local := by intro _; rfl) (hy : ∀ k, (F.X k).env.scope.names.lookup y = some .local := by intro _; rfl)
    (hw : ∀ k, swappedStores [.Tuple [.Name x px, .Name y py] kt pt] (.Tuple [a, b] k2 pt2) (F.X k).env = pure (some [x, y]) := by intro _; rfl)
    (hs : ∀ k, swapsWithSole [.Tuple [.Name x px, .Name y py] kt pt] (.Tuple [a, b] k2 pt2) pos.line (F.X k).env = pure false := by intro _; rfl) : RS F (.Assign [.Tuple [.Name x px, .Name y py] kt pt] (.Tuple [a, b] k2 pt2) pos) (wPar [i, j] w) := by
  obtain ⟨t, a1, a2⟩ := h
  refine ⟨_, fun k => ps_par (F.calm k) (F.nd k) (hi k) (hj k) hij (hx k) (hy k) (a1 k) (hw k) (hs k), fun B σ H ρ Z D C S O hw => a2 B σ H ρ Z _ _ _ S O.ex hw fun vs ss H1 ρ1 Z1 h1 h2 S1 hw => ?_⟩
  obtain ⟨v, u, rfl⟩ : ∃ v u, vs = [v, u] := by
    match vs, h1 with
    | [v, u], _ => exact ⟨v, u, rfl⟩
  exact ⟨v, u, rfl, O.nx _ H1 _ Z1 (St1.storeAll (is := [i, j]) rfl (by rw [h2]; rfl) S1) hw⟩
theorem rs_par3 {i j l : Nat} {x y z : Str} {c : Expr} {px py pz pt : Pos} {kt k2 : Nat} {pt2 : Pos} {w : WHs} (h : RHs F [a, b, c] w 3) (hi : ∀ k, (F.X k).N[i]? = some x := by intro _; rfl) (hj : ∀ k, (F.X k).N[j]? = some y := by intro _; rfl) (hl : ∀ k, (F.X k).N[l]? = some z := by intro _; rfl) (hij : i ≠ j := by decide) (hil : i ≠ l := by decide) (hjl : j ≠ l := by decide)
    (hx : ∀ k, (F.X k).env.scope.names.lookup x = some .local := by intro _; rfl) (hy : ∀ k, (F.X k).env.scope.names.lookup y = some .local := by intro _; rfl) (hz : ∀ k, (F.X k).env.scope.names.lookup z = some .local := by intro _; rfl)
    (hw : ∀ k, swappedStores [.Tuple [.Name x px, .Name y py, .Name z pz] kt pt] (.Tuple [a, b, c] k2 pt2) (F.X k).env = pure (some [x, y, z]) := by intro _; rfl)
    (hs : ∀ k, swapsWithSole [.Tuple [.Name x px, .Name y py, .Name z pz] kt pt] (.Tuple [a, b, c] k2 pt2) pos.line (F.X k).env = pure false := by intro _; rfl) : RS F (.Assign [.Tuple [.Name x px, .Name y py, .Name z pz] kt pt] (.Tuple [a, b, c] k2 pt2) pos) (wPar [i, j, l] w) := by
  obtain ⟨t, a1, a2⟩ := h
  refine ⟨_, fun k => ps_par3 (F.calm k) (F.nd k) (hi k) (hj k) (hl k) hij hil hjl (hx k) (hy k) (hz k) (a1 k) (hw k) (hs k), fun B σ H ρ Z D C S O hw => a2 B σ H ρ Z _ _ _ S O.ex hw fun vs ss H1 ρ1 Z1 h1 h2 S1 hw => ?_⟩
  obtain ⟨v, u, u', rfl⟩ : ∃ v u u', vs = [v, u, u'] := by
    match vs, h1 with
    | [v, u, u'], _ => exact ⟨v, u, u', rfl⟩
  exact ⟨v, u, u', rfl, O.nx _ H1 _ Z1 (St1.storeAll (is := [i, j, l]) rfl (by rw [h2]; rfl) S1) hw⟩
/-- names that hold cells: through a tuple -/
def namesG (k : Nat → Nat) : List Nat → TGs
  | [] => gNil
  | i :: is => gCons (gName i) (namesG k is)
theorem namesG_ok {k : Nat → Nat} : ∀ {is : List Nat} {vs : List V} {σ : L2.St} {Q : L2.St → Hp → Prop}, vs.length = is.length → Q (setV σ is vs) H → namesG k is vs σ H Q
  | [], [], _, _, _, q => ⟨rfl, q⟩
  | i :: is, v :: vs, σ, Q, h, q => ⟨v, vs, rfl, namesG_ok (is := is) (by simpa using h) q⟩
  | [], _ :: _, _, _, h, _ => by simp at h
  | _ :: _, [], _, _, h, _ => by simp at h
theorem rs_parC {is : List Nat} {ts es : List Expr} {pt : Pos} {kt k2 n : Nat} {pt2 : Pos} {w : WHs} (h : RHs F es w n) (hg : ∀ i, PGs (F.X i) ts (namesG id is)) (hn : is.length = n := by rfl)
    (hl : ∀ i, (assignEach ts (F.X i).env).length = n := by intro _; rfl) (hst : ∀ i, (assignEach ts (F.X i).env).findIdx? (·.1) = none := by intro _; rfl)
    (hs : ∀ i, swapsWithSole [.Tuple ts kt pt] (.Tuple es k2 pt2) pos.line (F.X i).env = pure false := by intro _; rfl) (hw : ∀ i, swappedStores [.Tuple ts kt pt] (.Tuple es k2 pt2) (F.X i).env = pure none := by intro _; rfl)
    (h1 : ∀ i, (assignEach [.Tuple ts kt pt] (F.X i).env).map (·.2) = [assign (.Tuple ts kt pt) (F.X i).env] := by intro _; rfl) (hz : n ≤ 1000 := by decide) : RS F (.Assign [.Tuple ts kt pt] (.Tuple es k2 pt2) pos) (wPar is w) := by
  obtain ⟨t, a1, a2⟩ := h
  refine ⟨tAsg (tTup t) (gTup F.K n (namesG id is)), fun i => by rw [← F.hK i]; exact ps_asg (pe_tup (a1 i)) (pg_tup (F.calm i) (hg i) (hl i) (hst i)) (hs i) (hw i) (h1 i), fun B σ H ρ Z D C S O hw => a2 B σ H ρ Z _ _ _ S O.ex hw fun vs ss H1 ρ1 Z1 h1 h2 S1 hw => ?_⟩
  refine ⟨by have := line1000; omega, fun p hp => ?_⟩
  obtain ⟨S2, _⟩ := S1.allocZ (o := .tup vs) hp
  exact ⟨p, vs, rfl, .of upd_same, h1, namesG_ok (by rw [h1, hn]) (O.nx _ _ _ _ (St1.storeAll (is := is) (by rw [h1, hn]) (by rw [h2, hn]) S2) hw)⟩

/-! ### loops -/
theorem rs_for {tg iter : Expr} {wi : WI} {g : WG} {wb : WS} {vs : List Nat} (hi : RI F tg iter wi) (hg : RG F tg g vs) (hb : RSs F body wb) (hs : ∀ i x, foldedSetIterable iter (F.X i).env x = pure x := by intro _ _; rfl) : RS F (.For tg iter body [] pos) (wFor wi g wb) := by
  obtain ⟨ti, i1, i2⟩ := hi
  obtain ⟨t, a1, a2⟩ := hg
  obtain ⟨u, b1, b2⟩ := hb
  refine ⟨_, fun i => ps_for (F.po i) (F.calm i) (i1 i) (a1 i) (b1 i) (hs i), fun B σ H ρ Z D C S O hw => i2 B σ H ρ Z _ _ _ S O.ex hw fun J items H1 ρ1 Z1 S1 _ it ⟨W, w0, ws, we⟩ => ?_⟩
  obtain ⟨B', S', back⟩ := S1.base
  have O' := O.of back
  refine ⟨fun i m σ H => ∃ ρ Z, St1 F.K B' σ H ρ Z [] ∧ i ≤ items.length ∧ m = items.length - i ∧ W i ρ, ⟨_, ρ1, Z1, S', Nat.zero_le _, rfl, w0⟩, ?_⟩
  rintro i m σ2 H2 ⟨ρ2, Z2, S2, hi, rfl, hW⟩
  have le2 := (back _ _ _ _ _ S2).2
  have leH : Le Z1 H2 := le2.trans' S2.sub
  by_cases hlt : i < items.length
  · refine .inr ⟨it.1 i H2 leH hlt, fun σ' H' => ∃ ρ' Z', St1 F.K B' σ' H' ρ' Z' [] ∧ W (i + 1) ρ', fun σ' H' ⟨ρ', Z', S', hW'⟩ => ⟨items.length - (i + 1), by omega, ρ', Z', S', hlt, rfl, hW'⟩, fun x H' y => ?_⟩
    have e : items[i]? = some items[i] := by simp [hlt]
    have go : ∀ {H3 : Hp} {Z3 : Hp}, St1 F.K B' σ2 H3 ρ2 Z3 [] → Rp F.K Z3 x items[i] → t x σ2 H3 fun σ4 H4 => u { D with nx := fun σ' H' => ∃ ρ' Z', St1 F.K B' σ' H' ρ' Z' [] ∧ W (i + 1) ρ', ct := fun σ' H' => ∃ ρ' Z', St1 F.K B' σ' H' ρ' Z' [] ∧ W (i + 1) ρ', bk := D.nx } σ4 H4 := fun {H3 Z3} S3 r =>
      a2 B' σ2 H3 ρ2 Z3 x _ _ _ (S3.have r) (ws i _ ρ2 e hW) fun σ4 H4 ρ4 Z4 S4 _ _ hw => b2 B' σ4 H4 ρ4 Z4 _ { C with nx := W (i + 1), ct := W (i + 1), bk := C.nx } S4 ⟨fun σ H ρ Z S q => ⟨ρ, Z, S, q⟩, O'.rt, fun σ H ρ Z S q => O'.nx σ H ρ Z S q, fun σ H ρ Z S q => ⟨ρ, Z, S, q⟩, O'.ex⟩ hw
    rcases it.2.2 i _ H2 x H' leH e y with ⟨rfl, r⟩ | ⟨p, vs, ds, hp, rfl, rfl, ed, rl⟩
    · exact go S2 (Rp.le le2 _ _ r)
    · obtain ⟨S3, le3⟩ := S2.allocZ (o := .tup vs) hp
      exact go S3 (by rw [ed]; exact .tup (.of upd_same) (RpL.le (le2.trans' le3) _ _ rl))
  · have e : i = items.length := by omega
    subst e
    exact .inl ⟨it.2.1 H2 leH, O'.nx σ2 H2 ρ2 Z2 S2 (we ρ2 hW)⟩
theorem rs_while {c : Expr} {tc : WT} {wb : WS} (hc : RT F c tc) (hb : RSs F body wb) : RS F (.While c body [] pos) (wWhile tc wb) := by
  obtain ⟨t, a1, a2⟩ := hc
  obtain ⟨u, b1, b2⟩ := hb
  refine ⟨_, fun i => ps_while (F.po i) (a1 i) (b1 i), fun B σ H ρ Z D C S O ⟨W, ⟨m0, w0⟩, ws⟩ => ?_⟩
  refine ⟨fun m σ H => ∃ ρ Z, St1 F.K B σ H ρ Z [] ∧ W m ρ, ⟨m0, ρ, Z, S, w0⟩, ?_⟩
  rintro m σ2 H2 ⟨ρ2, Z2, S2, hW⟩
  refine a2 B σ2 H2 ρ2 Z2 _ _ _ S2 O.ex (ws m ρ2 hW) fun b H3 ρ3 Z3 S3 _ hw => ?_
  cases b with
  | true =>
    refine ⟨fun σ' H' => ∃ ρ' Z', St1 F.K B σ' H' ρ' Z' [] ∧ ∃ m', m' < m ∧ W m' ρ', fun σ' H' ⟨ρ', Z', S', m', hm, hW'⟩ => ⟨m', hm, ρ', Z', S', hW'⟩, ?_⟩
    exact b2 B σ2 H3 ρ3 Z3 _ { C with nx := fun ρ' => ∃ m', m' < m ∧ W m' ρ', ct := fun ρ' => ∃ m', m' < m ∧ W m' ρ', bk := C.nx } S3 ⟨fun σ H ρ Z S q => ⟨ρ, Z, S, q⟩, O.rt, fun σ H ρ Z S q => O.nx σ H ρ Z S q, fun σ H ρ Z S q => ⟨ρ, Z, S, q⟩, O.ex⟩ hw
  | false => exact O.nx σ2 H3 ρ3 Z3 S3 hw

/-! ### comprehensions -/
/-- the block's contexts -/
def Fm.blk (F : Fm) (scope : Scope) : Fm where
  ι := F.ι × Shared × Hp × Addr × List (Str × Addr) × List Addr
  X := fun p => (F.X p.1).blk p.2.1 p.2.2.1 scope (compEnvC scope p.2.2.2.2.1 p.2.2.2.1 (F.X p.1).env) p.2.2.2.2.2
  K := F.K
  W := fun _ _ _ _ => False
  hK := fun p => F.hK p.1
  calm := fun p => F.calm p.1
  nd := fun p => F.nd p.1
  un := fun p => F.un p.1
  gd := fun p => F.gd p.1
  po := fun _ => PassesOwn.never
  tk := fun _ => takes0
  w := F.w
  hw := fun p => F.hw p.1
def RTs (F : Fm) (es : List Expr) (w : WT) : Prop := ∃ t, (∀ i, PTs (F.X i) es t) ∧ LT F t w
theorem rts_nil : RTs F [] tYes := ⟨L2.tYes, fun _ => pts_nil, fun B σ H ρ Z Q Q' E S X hw q => q true H ρ Z S (fun _ _ z => z) hw⟩
theorem rts_one {t : WT} (h : RT F e t) : RTs F [e] t := by
  obtain ⟨t', a1, a2⟩ := h
  exact ⟨t', fun i => pts_one (a1 i), a2⟩
theorem no_ex {B : Bs} : ExOk (Fm.blk F scope) B noEX := fun _ _ _ _ _ _ _ _ _ _ _ q => q.elim
theorem lc_ok {scope : Scope} {wi : WI} {g : WG} {wt : WT} {we : WE} {vs : List Nat} {ti : TI} {tg : TG} {tt : TT} {te : TE} (hi : LI F ti wi) (hg : LG (F.blk scope) tg g vs) (ht : LT (F.blk scope) tt wt) (he : LE (F.blk scope) te we) : LE F (tLc ti tg tt te vs) (wLc wi g wt we vs) := by
  refine LE.of fun B σ H ρ Z Q Q' E S X hw q => hi B σ H ρ Z _ _ E S X hw fun J items H1 ρ1 Z1 S1 le1 it ⟨W, w0, ws, wz⟩ D hD => ?_
  obtain ⟨B', S', back⟩ := S1.base
  have SD : St1 F.K B' σ (upd H1 D (.lst [])) ρ1 Z1 [(.ref D, .ow (.lst []))] := S'.alloc1 (o := .lst []) (d := .lst []) hD .nil
  refine ⟨fun i m H => ∃ acc ρ Z, St1 F.K B' (wipe σ vs) H ρ Z [(.ref D, .ow (.lst acc))] ∧ i ≤ items.length ∧ m = items.length - i ∧ W i acc ρ, ⟨_, [], _, Z1, SD.wipe vs, Nat.zero_le _, rfl, w0⟩, ?_⟩
  rintro i m H2 ⟨acc, ρ2, Z2, S2, hi, rfl, hW⟩
  have le2 := (back _ _ _ _ _ S2).2
  have leH : Le Z1 H2 := le2.trans' S2.sub
  by_cases hlt : i < items.length
  · refine .inr ⟨it.1 i H2 leH hlt, fun H' => ∃ acc' ρ' Z', St1 F.K B' (wipe σ vs) H' ρ' Z' [(.ref D, .ow (.lst acc'))] ∧ W (i + 1) acc' ρ', fun H' ⟨acc', ρ', Z', S', hW'⟩ => ⟨items.length - (i + 1), by omega, acc', ρ', Z', S', hlt, rfl, hW'⟩, fun x H' y => ?_⟩
    have e : items[i]? = some items[i] := by simp [hlt]
    obtain ⟨B3, S3, back3⟩ := S2.hold (.inr ⟨_, rfl⟩)
    have go : ∀ {H3 : Hp} {Z3 : Hp}, St1 F.K B3 (wipe σ vs) H3 ρ2 Z3 [] → Rp F.K Z3 x items[i] → tg x (wipe σ vs) H3 fun σ2 H2 => wipe σ2 vs = wipe σ vs ∧ tt σ2 H2 fun b H3 =>
        if b = true then te σ2 H3 fun y H4 => ∃ acc, H4 D = some (.lst acc) ∧ acc.length < sizeLine ∧ ∃ acc' ρ' Z', St1 F.K B' (wipe σ vs) (upd H4 D (.lst (acc ++ [y]))) ρ' Z' [(.ref D, .ow (.lst acc'))] ∧ W (i + 1) acc' ρ' else ∃ acc' ρ' Z', St1 F.K B' (wipe σ vs) H3 ρ' Z' [(.ref D, .ow (.lst acc'))] ∧ W (i + 1) acc' ρ' := fun {H3 Z3} S3 r => by
      refine hg B3 (wipe σ vs) H3 ρ2 Z3 x _ _ _ (S3.have r) (ws i _ acc ρ2 e hW) fun σ4 H4 ρ4 Z4 S4 _ w4 hw => ?_
      rw [wipe_wipe] at w4
      refine ⟨w4, ht B3 σ4 H4 ρ4 Z4 _ _ noEX S4 no_ex hw fun b H5 ρ5 Z5 S5 _ hw => ?_⟩
      cases b with
      | false =>
        have S6 := S5.wipe vs
        rw [w4] at S6
        exact ⟨acc, _, _, (back3 _ _ _ _ _ S6).1, hw⟩
      | true =>
        refine he B3 σ4 H5 ρ5 Z5 _ _ noEX S5 no_ex hw fun y s H6 ρ6 Z6 S6 _ hw => ?_
        obtain ⟨d, hs, hz, hw⟩ := fr_of hw
        obtain ⟨Z7, _, S7, r7⟩ := S6.thaw1 hs
        have S8 := S7.wipe vs
        rw [w4] at S8
        have S9 := (back3 _ _ _ _ _ S8).1
        obtain ⟨o, ho, ro, put⟩ := S9.writeT
        cases o with
        | lst accV =>
          have ro : RpL F.K Z7 accV acc := ro
          refine ⟨accV, ho, by rw [ro.len]; exact hz, acc ++ [d], _, Z7, put (.lst (accV ++ [y])) (.lst (acc ++ [d])) (ro.snoc r7), hw⟩
        | _ => exact (show False from ro).elim
    rcases it.2.2 i _ H2 x H' leH e y with ⟨rfl, r⟩ | ⟨p, us, ds, hp, rfl, rfl, ed, rl⟩
    · exact go S3 (Rp.le le2 _ _ r)
    · obtain ⟨S4, le4⟩ := S3.allocZ (o := .tup us) hp
      exact go S4 (by rw [ed]; exact .tup (.of upd_same) (RpL.le (le2.trans' le4) _ _ rl))
  · have e : i = items.length := by omega
    subst e
    refine .inl ⟨it.2.1 H2 leH, ?_⟩
    exact q _ _ H2 _ Z2 (S1.unwipe (back _ _ _ _ _ S2).1 le2) (wz acc ρ2 hW)
theorem re_lc {elt tg iter : Expr} {ifs : List Expr} {scope : Scope} {own : List (Str × Nat)} {wi : WI} {g : WG} {wt : WT} {we : WE} (hi : RI F tg iter wi) (ok : ∀ i, BlkOk (F.X i).N (F.X i).env.scope scope own) (hg : RG (F.blk scope) tg g (own.map (·.2))) (ht : RTs (F.blk scope) ifs wt) (he : RE (F.blk scope) elt we)
    (hs : ∀ i x, foldedSetIterable iter (F.X i).env x = pure x := by intro _ _; rfl) : RE F (.ListComp elt [⟨tg, iter, ifs, 0⟩] scope pos) (wLc wi g wt we (own.map (·.2))) := by
  obtain ⟨ti, i1, i2⟩ := hi
  obtain ⟨tg', g1, g2⟩ := hg
  obtain ⟨tt, t1, t2⟩ := ht
  obtain ⟨te, e1, e2⟩ := he
  exact ⟨_, fun i => pe_lc (F.calm i) (F.nd i) (i1 i) (ok i) (fun s H C cl fp => g1 (i, s, H, C, cl, fp)) (fun s H C cl fp => t1 (i, s, H, C, cl, fp)) (fun s H C cl fp => e1 (i, s, H, C, cl, fp)) (hs i), lc_ok i2 g2 t2 e2⟩
theorem rs_lc (k : Nat) {y : Str} {py spos : Pos} {elt tg iter : Expr} {ifs : List Expr} {scope : Scope} {own : List (Str × Nat)} {wi : WI} {g : WG} {wt : WT} {we : WE} (hi : RI F tg iter wi) (ok : ∀ i, BlkOk (F.X i).N (F.X i).env.scope scope own) (hg : RG (F.blk scope) tg g (own.map (·.2))) (ht : RTs (F.blk scope) ifs wt) (he : RE (F.blk scope) elt we)
    (hsw : ∀ i, swapsWith (.ListComp elt [⟨tg, iter, ifs, 0⟩] scope pos) (some (.Name y py)) spos.line (F.X i).env = pure true) (hy : ∀ i, (F.X i).N[k]? = some y := by intro _; rfl) (hyl : ∀ i, (F.X i).env.scope.names.lookup y = some .local := by intro _; rfl)
    (hs : ∀ i x, foldedSetIterable iter (F.X i).env x = pure x := by intro _ _; rfl) : RS F (.Assign [.Name y py] (.ListComp elt [⟨tg, iter, ifs, 0⟩] scope pos) spos) (wSet k (wLc wi g wt we (own.map (·.2)))) := by
  obtain ⟨ti, i1, i2⟩ := hi
  obtain ⟨tg', g1, g2⟩ := hg
  obtain ⟨tt, t1, t2⟩ := ht
  obtain ⟨te, e1, e2⟩ := he
  exact ⟨_, fun i => ps_setLc (F.calm i) (F.nd i) (hy i) (hyl i) (hsw i) (i1 i) (ok i) (fun s H C cl fp => g1 (i, s, H, C, cl, fp)) (fun s H C cl fp => t1 (i, s, H, C, cl, fp)) (fun s H C cl fp => e1 (i, s, H, C, cl, fp)) (hs i),
    fun B σ H ρ Z D C S O hw => lc_ok i2 g2 t2 e2 B σ H ρ Z _ _ _ S O.ex hw fun v s H1 ρ1 Z1 S1 _ hw => O.nx _ H1 _ Z1 S1.store hw⟩
end
end Pu

set_option Elab.async false
set_option linter.all false
set_option maxRecDepth 100000
/-! Pu, defs and calls of them. A def is entered where no guard against endless reprs stands (repr of a list asks this). -/
namespace Pu
open PySem L2 PySem.Spec PyProof.Rows

/-- a def keeps a promise -/
structure FnG (P : Program) (w : World) (K : PySem.W.Frag) (mg : Str → Option Value) (base : Heap) (k : Nat) (f : Addr) (fd : FuncData) (ps : List Str) (sp : Sp) : Prop where
  len : ∀ vs H Q E, sp vs H Q E → vs.length = ps.length
  go : ∀ (A : Around) (outer : List Env) (s : Shared) (H : Hp) (args : Args) (us : List Value) (vs : List V) (Q : VK) (E : XK),
    Room k A → A.guards = some [] → Env0 P w K mg base A outer s H → BindsTo s fd args (ps.zip us) → Vals vs us → sp vs H Q E →
    codeAny (model P w) A (.call (.ref f) args) (CR (L2.CX P w) outer P w H s Q E) s
section
variable {P : Program} {w : World} {K : PySem.W.Frag} {mg : Str → Option Value} {base : Heap} {k j : Nat} {f : Addr} {fd : FuncData} {ps : List Str} {sp : Sp}
theorem FnG.up (G : FnG P w K mg base j f fd ps sp) (h : j ≤ k) : FnG P w K mg base k f fd ps sp :=
  ⟨G.len, fun A outer s H args us vs Q E hr => G.go A outer s H args us vs Q E (hr.mono h)⟩
theorem FnG.ofOk (G : FnOk P w K mg base (L2.CX P w) k f fd ps sp) : FnG P w K mg base k f fd ps sp :=
  ⟨G.len, fun A outer s H args us vs Q E hr _ => G.run A outer s H args us vs Q E hr⟩
theorem FnG.imp {sp' : Sp} (G : FnG P w K mg base k f fd ps sp) (h : ∀ vs H Q E, sp' vs H Q E → sp vs H Q E) : FnG P w K mg base k f fd ps sp' :=
  ⟨fun vs H Q E q => G.len vs H Q E (h _ _ _ _ q), fun A outer s H args us vs Q E hr hg e0 hb hv q => G.go A outer s H args us vs Q E hr hg e0 hb hv (h _ _ _ _ q)⟩

theorem gd_deeper {A : Around} {env : Env} (h : A.guards = some []) : (A.deeper env).guards = some [] := by
  first
    | exact h
    | simpa [Around.deeper] using h

/-- a def by its body -/
theorem FnG.def {x qual : Str} {st : Stmt} {N : List Str} (T : Fun K x qual st f fd) (S : FnScope N ps (defScope st)) (len : ∀ vs H Q E, sp vs H Q E → vs.length = ps.length)
    (body : ∀ (cdv : Value) (A : Around) (outer : List Env) (s : Shared) (H : Hp) (vs : List V) (Q : VK) (E : XK), Room k (A.deeper (envOfC qual (defScope st) s.heap.objs.size f cdv)) → (A.deeper (envOfC qual (defScope st) s.heap.objs.size f cdv)).guards = some [] → sp vs H Q E →
      ∃ t, PSs (cxOf (L2.CX P w) P w K mg base N qual (defScope st) f cdv A outer s H E) (defBody st) t ∧ t { nx := fun _ H' => Q .non H', rt := Q } (L2.start N vs) H) : FnG P w K mg base (k + 1) f fd ps sp := by
  obtain ⟨oc, od, kV, doc, pm, an, cdv, ct, osl, rfl, lk, hcd⟩ := T.ex
  refine ⟨len, ?_⟩
  intro A outer s H args us vs Q E hr hgd e0 hb r hsp
  have lens := len _ _ _ _ hsp
  have here : K.In s.heap := e0.mod.kin.keeps (fun b o e => (e0.bs b o e).1)
  have lim : s.heap.NoLimit := e0.mod.nolimit.keeps (fun b o e => (e0.bs b o e).1)
  refine codeAny_call_function hr.depth (here _ _ lk) rfl S.co S.gen rfl
    (PySem.W.codeRec_of here hcd) (hb _ _ _ _ ?_)
  refine wpAny_newFunctionEnv_cells S.kind (fun y hy => ?_) (fun env he s1 x => ?_)
  · rcases S.par y.1 (List.of_mem_zip hy).1 with q | q
    · exact Or.inl q
    · exact Or.inr ⟨q, PySem.W.cellsFrom_some _ _ _ (Or.inl q)⟩
  · subst he
    refine ⟨lim.keeps x.toInCall.keep, codeAny_func ?_⟩
    obtain ⟨t, ht, hq⟩ := body cdv A outer s H vs Q E (hr.deeper _) (gd_deeper hgd) hsp
    have I := inv_start (CX := L2.CX P w) (E := E) S hr.hd e0 lens r x
    refine wpAny_mono (ht.run [] s1 (L2.start N vs) H _ I hq) (fun fl s' hs => ?_) (fun _ _ z => z)
    cases fl with
    | ret u =>
      obtain ⟨v, σ', H', J, rv, q⟩ := hs
      exact ⟨v, H', J.os, J.bare, J.base, J.hok, rv, q⟩
    | next =>
      obtain ⟨σ', H', J, q⟩ := hs
      exact ⟨V.non, H', J.os, J.bare, J.base, J.hok, rfl, q⟩
    | brk => exact hs.elim fun _ z => z.elim fun _ z => (show False from z.2).elim
    | cont => exact hs.elim fun _ z => z.elim fun _ z => (show False from z.2).elim
end

/-! ### promises over data -/
/-- arguments as they are handed in; as: the addresses lent -/
inductive ArgsOk (K : PySem.W.Frag) (Z H : Hp) : List Md → List V → List D → List Addr → Prop
  | nil : ArgsOk K Z H [] [] [] []
  | fz {ms vs ds as v d} : Rp K Z v d → ArgsOk K Z H ms vs ds as → ArgsOk K Z H (.fz :: ms) (v :: vs) (d :: ds) as
  | io {ms vs ds as} {a : Addr} {o : HO} {d : D} : Z a = none → H a = some o → RpO K Z o d → ArgsOk K Z H ms vs ds as → ArgsOk K Z H (.io :: ms) (.ref a :: vs) (d :: ds) (a :: as)
/-- .. as they are left -/
inductive OutsOk (K : PySem.W.Frag) (Z H : Hp) : List Md → List V → List D → Prop
  | nil : OutsOk K Z H [] [] []
  | fz {ms vs ds v d} : OutsOk K Z H ms vs ds → OutsOk K Z H (.fz :: ms) (v :: vs) (d :: ds)
  | io {ms vs ds} {a : Addr} {o : HO} {d : D} : Z a = none → H a = some o → RpO K Z o d → OutsOk K Z H ms vs ds → OutsOk K Z H (.io :: ms) (.ref a :: vs) (d :: ds)
/-- what a call leaves -/
structure Post (K : PySem.W.Frag) (Z H : Hp) (ms : List Md) (vs : List V) (as : List Addr) (Z' H' : Hp) (outs : List D) : Prop where
  le : Le Z Z'
  sub : Le Z' H'
  new : ∀ a o, Z' a = some o → Z a = some o ∨ H a = none
  keep : ∀ b o, H b = some o → b ∉ as → H' b = some o
  dom : ∀ b, H b ≠ none → H' b ≠ none
  out : OutsOk K Z' H' ms vs outs
/-- a value that comes back -/
def ResOk (K : PySem.W.Frag) (H Z' H' : Hp) (v : V) : Sl → Prop
  | .fz d => Rp K Z' v d
  | .ow d => ∃ a o, v = .ref a ∧ H a = none ∧ Z' a = none ∧ H' a = some o ∧ RpO K Z' o d
  | _ => False
def spL (K : PySem.W.Frag) (ms : List Md) (sp : DSp) : Sp := fun vs H Q E => ∃ Z ds as Q0 E0, Le Z H ∧ ArgsOk K Z H ms vs ds as ∧ as.Nodup ∧ sp ds Q0 E0 ∧
  (∀ s outs, Q0 s outs → ∀ v H' Z', Post K Z H ms vs as Z' H' outs → ResOk K H Z' H' v s → Q v H') ∧
  (∀ C d outs, E0 C d outs → ∀ v dx H' Z', Post K Z H ms vs as Z' H' outs → H' dx = some (.xd [("value", v)]) → Rp K Z' v d → E (.ref C) (some dx) H')
theorem ArgsOk.len {K : PySem.W.Frag} {Z H : Hp} {ms : List Md} {vs : List V} {ds : List D} {as : List Addr} (h : ArgsOk K Z H ms vs ds as) : vs.length = ms.length ∧ ds.length = ms.length := by
  induction h with
  | nil => exact ⟨rfl, rfl⟩
  | fz _ _ ih => exact ⟨congrArg (· + 1) ih.1, congrArg (· + 1) ih.2⟩
  | io _ _ _ _ ih => exact ⟨congrArg (· + 1) ih.1, congrArg (· + 1) ih.2⟩
theorem ArgsOk.own {K : PySem.W.Frag} {Z H : Hp} {ms : List Md} {vs : List V} {ds : List D} {as : List Addr} (h : ArgsOk K Z H ms vs ds as) : ∀ a ∈ as, Z a = none ∧ ∃ o, H a = some o := by
  induction h with
  | nil => intro a m; cases m
  | fz _ _ ih => exact ih
  | io z e _ _ ih =>
    intro a m
    rcases List.mem_cons.mp m with q | m
    · rw [q]; exact ⟨z, _, e⟩
    · exact ih a m

/-- the lent addresses by the places of the parameters -/
def iosAt : Nat → List Md → List V → Nat → Addr
  | k, .io :: ms, .ref a :: vs => fun j => if j = k then a else iosAt (k + 1) ms vs j
  | k, _ :: ms, _ :: vs => iosAt (k + 1) ms vs
  | _, _, _ => fun _ => 0
section
variable {K : PySem.W.Frag} {Z H : Hp}
theorem start_len {N : List Str} {vs : List V} (h : vs.length ≤ N.length) : (L2.start N vs).length = N.length := by
  unfold L2.start
  rw [List.length_append, List.length_map, List.length_replicate]
  omega
theorem startE_len : ∀ {ms : List Md} {ds : List D} {k n : Nat}, (startE k ms ds n).length = n
  | .fz :: ms, d :: ds, k, n + 1 => by unfold startE; rw [List.length_cons, startE_len]
  | .io :: ms, d :: ds, k, n + 1 => by unfold startE; rw [List.length_cons, startE_len]
  | [], _, _, n => by simp [startE]
  | .fz :: ms, [], k, n => by simp [startE]
  | .io :: ms, [], k, n => by simp [startE]
  | .fz :: ms, d :: ds, k, 0 => by simp [startE]
  | .io :: ms, d :: ds, k, 0 => by simp [startE]
/-- the slots at the start -/
theorem start_reps {B : Bs} {ms : List Md} {vs : List V} {ds : List D} {as : List Addr} (h : ArgsOk K Z H ms vs ds as) (hF : ∀ a ∈ as, B.Fx a = none) : ∀ (k n : Nat), vs.length ≤ n → (∀ j, B.io j = iosAt k ms vs j ∨ j < k) →
    ∃ fps : List (List Addr), Paired (fun (e : Ent) fp => SlR K B Z H e.1 fp e.2) ((vs.map some ++ List.replicate (n - vs.length) none).zip (startE k ms ds n)) fps ∧ fps.flatten = as := by
  induction h with
  | nil =>
    intro k n _ _
    have main : ∀ m : Nat, ∃ fps : List (List Addr), Paired (fun (e : Ent) fp => SlR K B Z H e.1 fp e.2) ((List.replicate m none).zip (List.replicate m Sl.un)) fps ∧ fps.flatten = [] := by
      intro m
      induction m with
      | zero => exact ⟨[], .nil, rfl⟩
      | succ m ih =>
        obtain ⟨fps, p, e⟩ := ih
        exact ⟨[] :: fps, .cons rfl p, by simpa using e⟩
    simpa [startE] using main n
  | fz r t ih =>
    intro k n hn h3
    rename_i ms vs ds as v d
    obtain ⟨n, rfl⟩ : ∃ m, n = m + 1 := ⟨n - 1, by simp at hn; omega⟩
    obtain ⟨fps, p, e⟩ := ih hF (k + 1) n (by simpa using hn) (fun j => by
        rcases h3 j with q | q
        · exact .inl q
        · exact .inr (by omega))
    refine ⟨[] :: fps, ?_, by simpa using e⟩
    have e1 : (v :: vs).map some ++ List.replicate (n + 1 - (v :: vs).length) none = some v :: (vs.map some ++ List.replicate (n - vs.length) none) := by simp
    rw [e1]
    exact .cons ⟨rfl, v, rfl, r⟩ p
  | io z ha r t ih =>
    intro k n hn h3
    rename_i ms vs ds as a o d
    obtain ⟨n, rfl⟩ : ∃ m, n = m + 1 := ⟨n - 1, by simp at hn; omega⟩
    have bk : k < k + 1 := Nat.lt_succ_self k
    obtain ⟨fps, p, e⟩ := ih (fun b m => hF b (List.mem_cons_of_mem _ m)) (k + 1) n (by simpa using hn) (fun j => by
        by_cases hj : j < k + 1
        · exact .inr hj
        · rcases h3 j with q | q
          · refine .inl (q.trans ?_)
            show (if j = k then a else iosAt (k + 1) ms vs j) = _
            rw [if_neg (by omega)]
          · omega)
    refine ⟨[a] :: fps, ?_, by simp [e]⟩
    have e1 : (V.ref a :: vs).map some ++ List.replicate (n + 1 - (V.ref a :: vs).length) none = some (V.ref a) :: (vs.map some ++ List.replicate (n - vs.length) none) := by simp
    rw [e1]
    refine .cons ⟨a, o, rfl, rfl, z, hF a (List.mem_cons_self ..), ha, r, ?_⟩ p
    rcases h3 k with q | q
    · rw [q]; show (if k = k then a else _) = a; rw [if_pos rfl]
    · omega
end

/-! ### the body -/
theorem withN_mono {o : Option (List D)} {k k' : List D → Prop} (h : withN o k) (m : ∀ x, k x → k' x) : withN o k' := by
  cases o with
  | none => exact h
  | some x => exact m x h
section
variable {P : Program} {w : World} {K : PySem.W.Frag} {mg : Str → Option Value} {base : Heap} {k : Nat} {f : Addr} {fd : FuncData} {ps : List Str}
theorem outs_aux {B : Bs} {Z H : Hp} : ∀ {ms : List Md} {vs : List V} {ds0 : List D} {as : List Addr} {Z0 H0 : Hp}, ArgsOk K Z0 H0 ms vs ds0 as → ∀ (k : Nat) (σ : L2.St) (ρ : En) (fps : List (List Addr)) (outs : List D), σ.length = ρ.length →
    Paired (fun (e : Ent) fp => SlR K B Z H e.1 fp e.2) (σ.zip ρ) fps → (∀ j, B.io j = iosAt k ms vs j ∨ j < k) → outsE k ms ρ = some outs → OutsOk K Z H ms vs outs := by
  intro ms vs ds0 as Z0 H0 h
  induction h with
  | nil =>
    intro k σ ρ fps outs _ _ _ e
    have e : some [] = some outs := by cases ρ <;> exact e
    cases e
    exact .nil
  | fz _ _ ih =>
    intro k σ ρ fps outs hl p hio e
    rename_i ms vs ds as v d _ _
    cases ρ with
    | nil => cases e
    | cons s ρ =>
      cases σ with
      | nil => simp at hl
      | cons u σ =>
        cases p with
        | cons q p =>
          unfold outsE at e
          cases e1 : outsE (k + 1) ms ρ with
          | none => rw [e1] at e; cases e
          | some r =>
            rw [e1] at e
            cases e
            refine .fz (ih (k + 1) σ ρ _ r (by simpa using hl) p (fun j => ?_) e1)
            rcases hio j with z | z
            · exact .inl z
            · exact .inr (by omega)
  | io _ _ _ _ ih =>
    intro k σ ρ fps outs hl p hio e
    rename_i ms vs ds as a o d _ _ _ _
    cases ρ with
    | nil => cases e
    | cons s ρ =>
      cases σ with
      | nil => simp at hl
      | cons u σ =>
        cases p with
        | cons q p =>
          cases s with
          | io j d' =>
            unfold outsE at e
            by_cases hj : j = k
            · rw [if_pos hj] at e
              cases e1 : outsE (k + 1) ms ρ with
              | none => rw [e1] at e; cases e
              | some r =>
                rw [e1] at e
                cases e
                obtain ⟨b, o', _, _, z, _, hb, r', kio⟩ := q
                have ba : b = a := by
                  rcases hio j with w | w
                  · rw [← kio, w]
                    show (if j = k then a else _) = a
                    rw [if_pos hj]
                  · omega
                subst ba
                refine .io z hb r' (ih (k + 1) σ ρ _ r (by simpa using hl) p (fun j => ?_) e1)
                by_cases hj2 : j < k + 1
                · exact .inr hj2
                · rcases hio j with w | w
                  · refine .inl (w.trans ?_)
                    show (if j = k then b else iosAt (k + 1) ms vs j) = _
                    rw [if_neg (by omega)]
                  · omega
            · rw [if_neg hj] at e; cases e
          | _ => cases e
/-- one context as a family -/
structure FmP (X : Cx) (K : PySem.W.Frag) (W : WX) (w : World) : Prop where
  hK : X.K = K
  calm : X.calm = true
  nd : X.N.Nodup
  un : X.A.units + 80 < cLine
  gd : X.A.guards = some []
  po : PassesOwn (model X.prog X.w) X.A X.env X.xe
  tk : Takes X W
  hw : X.w = w
abbrev fmOf (X : Cx) (K : PySem.W.Frag) (W : WX) (w : World) (h : FmP X K W w) : Fm := ⟨Unit, fun _ => X, K, W, fun _ => h.hK, fun _ => h.calm, fun _ => h.nd, fun _ => h.un, fun _ => h.gd, fun _ => h.po, fun _ => h.tk, w, fun _ => h.hw⟩
/-- a def, by its body's reading over data -/
theorem FnG.pu {x qual : Str} {st : Stmt} {N : List Str} {ms : List Md} {sp : DSp} {ws : WS} (T : Fun K x qual st f fd) (S : FnScope N ps (defScope st)) (hl : ms.length = ps.length) (hn : ps.length ≤ N.length)
    (body : ∀ (W : WX) (cdv : Value) (A : Around) (outer : List Env) (s : Shared) (H : Hp) (E : XK) (h : FmP (cxOf (L2.CX P w) P w K mg base N qual (defScope st) f cdv A outer s H E) K W w), Room k (A.deeper (envOfC qual (defScope st) s.heap.objs.size f cdv)) → RSs (fmOf _ K W w h) (defBody st) ws)
    (keep : keeps ms N.length sp ws) : FnG P w K mg base (k + 1) f fd ps (spL K ms sp) := by
  refine FnG.def T S (fun vs H Q E h => ?_) (fun cdv A outer s H vs Q E hr hgd h => ?_)
  · obtain ⟨Z, ds, as, _, _, _, h, _⟩ := h
    rw [h.len.1, hl]
  · obtain ⟨Z, ds, as, Q0, E0, hZ, ha, nd, hsp, hQ, hE⟩ := h
    let X : Cx := cxOf (L2.CX P w) P w K mg base N qual (defScope st) f cdv A outer s H E
    have hF : FmP X K (fun cls d _ H => E cls d H) w := ⟨rfl, rfl, S.nd, (by have := hr.un; show (A.deeper _).units + 80 < cLine; omega), hgd, passes_of rfl, takes_of rfl rfl rfl rfl, rfl⟩
    obtain ⟨t, h1, h2⟩ := body _ cdv A outer s H E hF hr
    refine ⟨t, h1 (), ?_⟩
    let B : Bs := ⟨fun b => if b ∈ as then none else H b, Z, H, iosAt 0 ms vs⟩
    have Fx1 : ∀ {a : Addr}, a ∈ as → B.Fx a = none := fun m => if_pos m
    have Fx2 : ∀ {a : Addr}, a ∉ as → B.Fx a = H a := fun m => if_neg m
    have lens := ha.len
    have hvn : vs.length ≤ N.length := by rw [lens.1, hl]; exact hn
    have S0 : St1 K B (L2.start N vs) H (startE 0 ms ds N.length) Z [] := by
      refine ⟨by rw [start_len hvn, startE_len], hZ, fun _ _ e => .inl e, fun _ _ e => e, fun a o e => ?_, fun _ e => e, ?_⟩
      · by_cases m : a ∈ as
        · rw [Fx1 m] at e; cases e
        · rw [Fx2 m] at e; exact e
      · obtain ⟨fps, p, e⟩ := start_reps (B := B) ha (fun a m => Fx1 m) 0 N.length hvn (fun j => .inl rfl)
        simp only [tmps, List.map_nil, List.append_nil]
        exact ⟨fps, p, by rw [e]; exact nd⟩
    have post : ∀ {σ' : L2.St} {H' : Hp} {ρ' : En} {Z' : Hp} {tmp : List (V × Sl)} {outs : List D}, St1 K B σ' H' ρ' Z' tmp → outsE 0 ms ρ' = some outs → Post K Z H ms vs as Z' H' outs := fun {σ' H' ρ' Z' tmp outs} S' e => by
      refine ⟨S'.zo, S'.sub, fun a o e => ?_, fun b o e m => S'.fx b o ((Fx2 m).trans e), S'.dm, ?_⟩
      · rcases S'.zn a o e with z | ⟨_, z⟩
        · exact .inl z
        · exact .inr z
      · obtain ⟨fps, p, _⟩ := S'.rp
        obtain ⟨f1, f2, rfl, p1, _⟩ := pd_split p
        exact outs_aux ha 0 σ' ρ' f1 outs S'.len p1 (fun j => .inl rfl) e
    have hk := keep ds Q0 E0 lens.2 hsp
    refine h2 B (L2.start N vs) H _ Z _ _ S0 ?_ hk
    refine ⟨fun σ' H' ρ' Z' S' q => ?_, fun σ' v s H' ρ' Z' S' q => ?_, fun _ _ _ _ _ q => (show False from q).elim, fun _ _ _ _ _ q => (show False from q).elim, fun σ' H' ρ' Z' C dx v d S' hdx r q => ?_⟩
    · obtain ⟨outs, e, q⟩ := withN_of q
      exact hQ _ _ q _ _ _ (post S' e) .non
    · obtain ⟨hv, q⟩ := vl_of q
      obtain ⟨outs, e, q⟩ := withN_of q
      refine hQ _ _ q _ _ _ (post S' e) ?_
      obtain ⟨fps, p, _⟩ := S'.rp
      obtain ⟨f1, f2, _, _, p2⟩ := pd_split p
      obtain ⟨g, _, sl⟩ := pd_one p2
      rcases hv with ⟨d, rfl⟩ | ⟨d, rfl⟩
      · obtain ⟨_, u, e, r⟩ := sl
        have e : some v = some u := e
        cases e
        exact r
      · obtain ⟨a, o, e, _, z, _, h0, ha', r⟩ := sl
        have e : some v = some (V.ref a) := e
        cases e
        exact ⟨a, o, rfl, h0, z, ha', r⟩
    · obtain ⟨outs, e, q⟩ := withN_of q
      exact hE _ _ _ q _ _ _ _ (post S' e) hdx r
end
end Pu

set_option Elab.async false
set_option linter.all false
set_option maxRecDepth 100000
/-! Pu, calls of defs, makings of instances, fields. -/
namespace Pu
open PySem L2 PySem.Spec PyProof.Rows

section
variable {F : Fm} {K : PySem.W.Frag} {B : Bs} {σ : L2.St} {H H' : Hp} {ρ : En} {Z Z' : Hp} {E : EX} {e a b : Expr} {pos : Pos}
theorem ArOk.le {v : V} {r : Ar} (h : ArOk K σ Z v r) (k : Le Z Z') : ArOk K σ Z' v r := by
  cases r with
  | v d => exact Rp.le k d v h
  | s i => exact h
theorem pd_ArLe {vs : List V} {rs : List Ar} (h : Paired (ArOk K σ Z) vs rs) (k : Le Z Z') : Paired (ArOk K σ Z') vs rs := pd_imp h fun _ _ _ q => q.le k

/-- two slots on one address are one -/
theorem fps_inj : ∀ {fps : List (List Addr)} {i j : Nat} {a : Addr}, fps.flatten.Nodup → fps[i]? = some [a] → fps[j]? = some [a] → i = j
  | [], _, _, _, _, e, _ => by simp at e
  | g :: fps, 0, 0, _, _, _, _ => rfl
  | g :: fps, 0, j + 1, a, nd, e1, e2 => by
    simp at e1
    subst e1
    rw [List.flatten_cons] at nd
    obtain ⟨_, _, d⟩ := nodup_app nd
    exact absurd (List.mem_flatten.mpr ⟨[a], List.mem_of_getElem? (by simpa using e2), by simp⟩) (d a (by simp))
  | g :: fps, i + 1, 0, a, nd, e1, e2 => by
    simp at e2
    subst e2
    rw [List.flatten_cons] at nd
    obtain ⟨_, _, d⟩ := nodup_app nd
    exact absurd (List.mem_flatten.mpr ⟨[a], List.mem_of_getElem? (by simpa using e1), by simp⟩) (d a (by simp))
  | g :: fps, i + 1, j + 1, a, nd, e1, e2 => by
    rw [List.flatten_cons] at nd
    exact congrArg (· + 1) (fps_inj (i := i) (j := j) (nodup_app nd).2.1 (by simpa using e1) (by simpa using e2))
theorem fps_out {fps : List (List Addr)} {i j : Nat} {a : Addr} {g : List Addr} (nd : fps.flatten.Nodup) (e1 : fps[i]? = some [a]) (e2 : fps[j]? = some g) (m : a ∈ g) (ne : i ≠ j) : False := by
  induction fps generalizing i j with
  | nil => simp at e1
  | cons g0 fps ih =>
    rw [List.flatten_cons] at nd
    obtain ⟨_, n2, d⟩ := nodup_app nd
    cases i with
    | zero =>
      cases j with
      | zero => exact ne rfl
      | succ j =>
        simp at e1
        subst e1
        exact d a (by simp) (List.mem_flatten.mpr ⟨g, List.mem_of_getElem? (by simpa using e2), m⟩)
    | succ i =>
      cases j with
      | zero =>
        simp at e2
        subst e2
        exact d a m (List.mem_flatten.mpr ⟨[a], List.mem_of_getElem? (by simpa using e1), by simp⟩)
      | succ j => exact ih n2 (by simpa using e1) (by simpa using e2) (fun q => ne (by rw [q]))
/-- the arguments of a call, as the callee takes them -/
theorem ar_args {fps : List (List Addr)} (hl : σ.length = ρ.length) (p : Paired (fun (e : Ent) fp => SlR K B Z H e.1 fp e.2) (σ.zip ρ) fps) : ∀ {vs : List V} {ars : List Ar} {ds : List D}, Paired (ArOk K σ Z) vs ars → argsD ρ ars = some ds →
    ∃ as, ArgsOk K Z H (modesOf ars) vs ds as ∧ Paired (fun (i : Nat) a => fps[i]? = some [a]) (slotsOf ars) as
  | _, [], ds, h, e => by
    cases h
    have e : some [] = some ds := e
    cases e
    exact ⟨[], .nil, .nil⟩
  | _, .v d :: ars, ds, h, e => by
    cases h with
    | cons h t =>
      unfold argsD at e
      cases e1 : argsD ρ ars with
      | none => rw [e1] at e; cases e
      | some r =>
        rw [e1] at e
        cases e
        obtain ⟨as, h1, h2⟩ := ar_args hl p t e1
        exact ⟨as, .fz h h1, h2⟩
  | _, .s i :: ars, ds, h, e => by
    cases h with
    | cons h t =>
      unfold argsD at e
      cases e2 : lent ρ[i]? with
      | none => rw [e2] at e; cases e
      | some d =>
        rw [e2] at e
        cases e1 : argsD ρ ars with
        | none => simp only [e1] at e; cases e
        | some r =>
          simp only [e1] at e
          cases e
          obtain ⟨as, h1, h2⟩ := ar_args hl p t e1
          cases e3 : ρ[i]? with
          | none => rw [e3] at e2; cases e2
          | some s =>
            have h : σ[i]? = some (some _) := h
            rename_i v vs' _
            have e4 : (σ.zip ρ)[i]? = some (some v, s) := List.getElem?_zip_eq_some.mpr ⟨h, e3⟩
            obtain ⟨g, eg, q⟩ := pd_getL p e4
            rw [e3] at e2
            cases s with
            | ow d' =>
              cases e2
              obtain ⟨a, o, ev, rfl, z, _, _, ha, r⟩ := q
              have ev : some v = some (V.ref a) := ev
              cases ev
              exact ⟨a :: as, .io z ha r h1, .cons eg h2⟩
            | io k d' =>
              cases e2
              obtain ⟨a, o, ev, rfl, z, _, ha, r, _⟩ := q
              have ev : some v = some (V.ref a) := ev
              cases ev
              exact ⟨a :: as, .io z ha r h1, .cons eg h2⟩
            | _ => cases e2
theorem as_nodup {fps : List (List Addr)} (nd : fps.flatten.Nodup) : ∀ {is : List Nat} {as : List Addr}, Paired (fun (i : Nat) a => fps[i]? = some [a]) is as → is.Nodup → as.Nodup
  | _, _, .nil, _ => List.nodup_nil
  | i :: is, a :: as, .cons h t, n => by
    obtain ⟨n1, n2⟩ := List.nodup_cons.mp n
    refine List.nodup_cons.mpr ⟨fun m => n1 ?_, as_nodup nd t n2⟩
    obtain ⟨j, hj⟩ := List.getElem?_of_mem m
    obtain ⟨i', e, q⟩ := pd_get t hj
    rw [fps_inj nd h q]
    exact List.mem_of_getElem? e
/-- the slots behind a call -/
theorem backD_ok {Z' H' : Hp} : ∀ {ars : List Ar} {vs : List V} {outs : List D} {ρ : En}, (slotsOf ars).Nodup → Paired (ArOk K σ Z) vs ars → OutsOk K Z' H' (modesOf ars) vs outs →
    (backD ρ ars outs).length = ρ.length ∧ (∀ i, i ∉ slotsOf ars → (backD ρ ars outs)[i]? = ρ[i]?) ∧ ∀ i ∈ slotsOf ars, ∃ a o d, σ[i]? = some (some (.ref a)) ∧ Z' a = none ∧ H' a = some o ∧ RpO K Z' o d ∧ ∀ s, ρ[i]? = some s → (backD ρ ars outs)[i]? = some (lentBack (some s) d)
  | [], _, outs, ρ, _, _, h => by
    cases h
    exact ⟨rfl, fun _ _ => rfl, fun i m => by cases m⟩
  | .v d :: ars, _, outs, ρ, n, p, h => by
    cases p with
    | cons _ p =>
      cases h with
      | fz h => exact backD_ok (ρ := ρ) (ars := ars) n p h
  | .s j :: ars, _, outs, ρ, n, p, h => by
    cases p with
    | cons pj p =>
      cases h with
      | io z ha r h =>
        rename_i a o d
        obtain ⟨n1, n2⟩ := List.nodup_cons.mp n
        obtain ⟨h1, h2, h3⟩ := backD_ok (ρ := ρ.set j (lentBack ρ[j]? d)) (ars := ars) n2 p h
        refine ⟨h1.trans (by simp), fun i m => ?_, fun i m => ?_⟩
        · have m' : ¬ (i = j ∨ i ∈ slotsOf ars) := fun q => m (List.mem_cons.mpr q)
          have e := h2 i fun q => m' (.inr q)
          refine e.trans (List.getElem?_set_ne fun q => m' (.inl q.symm))
        · rcases List.mem_cons.mp m with rfl | m
          · refine ⟨a, o, d, pj, z, ha, r, fun s es => (h2 i n1).trans ?_⟩
            rw [List.getElem?_set_self (lt_of_get es), es]
          · have ne : j ≠ i := fun q => n1 (q ▸ m)
            obtain ⟨a', o', d', e1, e2, e3, e4, e5⟩ := h3 i m
            exact ⟨a', o', d', e1, e2, e3, e4, fun s es => e5 s ((List.getElem?_set_ne ne).trans es)⟩
theorem lent_of : ∀ {ars : List Ar} {ds : List D}, argsD ρ ars = some ds → ∀ i ∈ slotsOf ars, ∃ d, lent ρ[i]? = some d
  | [], _, _, i, m => by cases m
  | .v d :: ars, ds, e, i, m => by
    unfold argsD at e
    cases e1 : argsD ρ ars with
    | none => rw [e1] at e; cases e
    | some r => exact lent_of e1 i m
  | .s j :: ars, ds, e, i, m => by
    unfold argsD at e
    cases e2 : lent ρ[j]? with
    | none => rw [e2] at e; cases e
    | some d =>
      rw [e2] at e
      cases e1 : argsD ρ ars with
      | none => simp only [e1] at e; cases e
      | some r =>
        rcases List.mem_cons.mp m with q | m
        · rw [q]; exact ⟨d, e2⟩
        · exact lent_of e1 i m
/-- the state behind a call -/
theorem St1.after {vs : List V} {ars : List Ar} {ds outs : List D} {as : List Addr} {fps : List (List Addr)} (S : St1 K B σ H ρ Z []) (p : Paired (fun (e : Ent) fp => SlR K B Z H e.1 fp e.2) (σ.zip ρ) fps) (nd : fps.flatten.Nodup) (pa : Paired (ArOk K σ Z) vs ars) (ns : (slotsOf ars).Nodup) (hd : argsD ρ ars = some ds)
    (pas : Paired (fun (i : Nat) a => fps[i]? = some [a]) (slotsOf ars) as) (po : Post K Z H (modesOf ars) vs as Z' H' outs) :
    St1 K B σ H' (backD ρ ars outs) Z' [] ∧ ∀ v s, ResOk K H Z' H' v s → St1 K B σ H' (backD ρ ars outs) Z' [(v, s)] := by
  obtain ⟨b1, b2, b3⟩ := backD_ok (ρ := ρ) ns pa po.out
  have to_ : ∀ a ∈ as, ∃ i ∈ slotsOf ars, fps[i]? = some [a] := fun a m => by
    obtain ⟨j, hj⟩ := List.getElem?_of_mem m
    obtain ⟨i, e, q⟩ := pd_get pas hj
    exact ⟨i, List.mem_of_getElem? e, q⟩
  have Zout : ∀ {a : Addr} {o : HO}, H a = some o → Z a = none → Z' a = none := fun {a o} e z => by
    cases q : Z' a with
    | none => rfl
    | some u =>
      rcases po.new a u q with w | w
      · rw [z] at w; cases w
      · rw [e] at w; cases w
  have p' : Paired (fun (e : Ent) fp => SlR K B Z' H' e.1 fp e.2) (σ.zip (backD ρ ars outs)) fps := by
    have hl : (σ.zip ρ).length = fps.length := pd_len p
    refine pd_ix (by rw [← hl]; simp [b1]) fun i x g e1 e2 => ?_
    obtain ⟨v, s'⟩ := x
    rw [List.getElem?_zip_eq_some] at e1
    obtain ⟨ev, es'⟩ := e1
    have ev : σ[i]? = some v := ev
    have es' : (backD ρ ars outs)[i]? = some s' := es'
    have hi : i < ρ.length := by rw [← S.len]; exact lt_of_get ev
    have es : ρ[i]? = some ρ[i] := by simp [hi]
    obtain ⟨g', eg, q⟩ := pd_getL p (List.getElem?_zip_eq_some.mpr ⟨ev, es⟩ : (σ.zip ρ)[i]? = some (v, ρ[i]))
    rw [e2] at eg
    cases eg
    by_cases m : i ∈ slotsOf ars
    · obtain ⟨a, o, d, e3, z', ha', r', e4⟩ := b3 i m
      have e5 := e4 _ es
      rw [es'] at e5
      have e5 := Option.some.inj e5
      rw [ev] at e3
      have e3 : v = some (.ref a) := Option.some.inj e3
      rw [e5]
      obtain ⟨dl, el⟩ := lent_of hd i m
      rw [es] at el
      generalize ρ[i] = s at q el
      cases s with
      | ow d0 =>
        obtain ⟨a1, o1, ev1, eg1, _, f, h0, _, _⟩ := q
        have ev1 : v = some (V.ref a1) := ev1
        rw [e3] at ev1
        cases ev1
        exact ⟨a, o, e3, eg1, z', f, h0, ha', r'⟩
      | io k d0 =>
        obtain ⟨a1, o1, ev1, eg1, _, f, _, _, kk⟩ := q
        have ev1 : v = some (V.ref a1) := ev1
        rw [e3] at ev1
        cases ev1
        exact ⟨a, o, e3, eg1, z', f, ha', r', kk⟩
      | _ => cases el
    · have e3 := b2 i m
      rw [es', es] at e3
      have e3 := Option.some.inj e3
      rw [e3]
      have ow := q.own
      refine q.move rfl po.le (fun a ma z => ?_) (fun _ _ f => f) (fun _ _ z => z) (fun a ma => ?_)
      · obtain ⟨_, _, o, e⟩ := ow a ma
        exact Zout e z
      · obtain ⟨_, _, o, e⟩ := ow a ma
        rw [e]
        refine po.keep a o e fun mm => ?_
        obtain ⟨j, mj, ej⟩ := to_ a mm
        exact fps_out nd ej e2 ma fun q => m (q ▸ mj)
  have core : ∀ {tmp : List (V × Sl)}, Reps K B Z' H' (σ.zip (backD ρ ars outs) ++ tmps tmp) → St1 K B σ H' (backD ρ ars outs) Z' tmp := fun {tmp} R => by
    refine ⟨by rw [b1]; exact S.len, po.sub, fun a o e => ?_, S.zo.trans' po.le, fun a o e => po.keep a o (S.fx a o e) fun m => ?_, fun a h => po.dom a (S.dm a h), R⟩
    · rcases po.new a o e with z | z
      · exact S.zn a o z
      · exact .inr (S.fresh z).2
    · obtain ⟨i, _, ei⟩ := to_ a m
      obtain ⟨x, _, q⟩ := pd_get p ei
      obtain ⟨_, f, _⟩ := q.own a (by simp)
      rw [f] at e; cases e
  refine ⟨core (by simp only [tmps, List.map_nil, List.append_nil]; exact ⟨fps, p', nd⟩), fun v s r => core ?_⟩
  have e : σ.zip (backD ρ ars outs) ++ tmps [(v, s)] = σ.zip (backD ρ ars outs) ++ [(some v, s)] := rfl
  rw [e]
  cases s with
  | fz d => exact ⟨fps ++ [[]], pd_app p' (.cons ⟨rfl, v, rfl, r⟩ .nil), by simpa using nd⟩
  | ow d =>
    obtain ⟨a, o, rfl, h0, z, ha, ro⟩ := r
    refine ⟨fps ++ [[a]], pd_app p' (.cons ⟨a, o, rfl, rfl, z, (S.fresh h0).2.1, (S.fresh h0).2.2, ha, ro⟩ .nil), ?_⟩
    rw [List.flatten_append]
    refine List.nodup_append.mpr ⟨nd, by simp, fun x m1 y m2 xy => ?_⟩
    subst xy
    have m2 : x = a := by simpa using m2
    subst m2
    obtain ⟨_, _, o', e'⟩ := pd_own p x m1
    rw [h0] at e'; cases e'
  | _ => exact (show False from r).elim

/-! ### argument lists -/
def RAs (F : Fm) (es : List Expr) (w : WAs) (ms : List Md) (is : List Nat) : Prop := ∃ t, (∀ i, PA (F.X i) es t) ∧ LAs F t w ms is
def RKs (F : Fm) (kws : List Keyword) (w : WAs) (ms : List Md) (is : List Nat) : Prop := ∃ t, (∀ i, PK (F.X i) kws t) ∧ LAs F t w ms is
theorem las_nil : LAs F tNil asN [] [] := fun B σ H ρ Z Q Q' E S X hw q => q [] [] H ρ Z S (fun _ _ z => z) .nil rfl rfl hw
theorem las_v {ta : TE} {tb : TA} {wa : WE} {wb : WAs} {ms : List Md} {is : List Nat} (a2 : LE F ta wa) (b2 : LAs F tb wb ms is) : LAs F (tCons ta tb) (asV wa wb) (.fz :: ms) is :=
  fun B σ H ρ Z Q Q' E S X hw q => a2 B σ H ρ Z _ _ E S X hw fun x s H1 ρ1 Z1 S1 le1 hw => by
    obtain ⟨d, hs, hw⟩ := fr_of hw
    obtain ⟨Z1', le1', S1', r⟩ := S1.thaw1 hs
    refine b2 B σ H1 ρ1 Z1' _ _ E S1' X hw fun vs as H2 ρ2 Z2 S2 le2 p m1 m2 hw => ?_
    exact q (x :: vs) (.v d :: as) H2 ρ2 Z2 S2 (le1.trans' (le1'.trans' le2)) (.cons (Rp.le le2 d x r) p) (by rw [← m1]; rfl) m2 hw
theorem las_s {tb : TA} {wb : WAs} {ms : List Md} {is : List Nat} (k : Nat) (b2 : LAs F tb wb ms is) : LAs F (tCons (tVar k) tb) (asS k wb) (.io :: ms) (k :: is) :=
  fun B σ H ρ Z Q Q' E S X hw q => by
    obtain ⟨d, hl, hw⟩ := with1_of hw
    have : ∃ v, σ[k]? = some (some v) := by
      cases e : ρ[k]? with
      | none => rw [e] at hl; cases hl
      | some s =>
        rw [e] at hl
        obtain ⟨u, g, e1, sr⟩ := S.slot e
        cases s with
        | ow d' =>
          obtain ⟨a, o, ev, _⟩ := sr
          exact ⟨_, by rw [e1, ev]⟩
        | io j d' =>
          obtain ⟨a, o, ev, _⟩ := sr
          exact ⟨_, by rw [e1, ev]⟩
        | _ => cases hl
    obtain ⟨v, ev⟩ := this
    refine ⟨v, ev, b2 B σ H ρ Z _ _ E S X hw fun vs as H2 ρ2 Z2 S2 le2 p m1 m2 hw => ?_⟩
    exact q (v :: vs) (.s k :: as) H2 ρ2 Z2 S2 le2 (.cons ev p) (by rw [← m1]; rfl) (by rw [← m2]; rfl) hw
theorem ras_nil : RAs F [] asN [] [] := ⟨tNil, fun _ => pa_nil, las_nil⟩
theorem ras_v {es : List Expr} {wa : WE} {wb : WAs} {ms : List Md} {is : List Nat} (ha : RE F e wa) (hb : RAs F es wb ms is) (hs : ∀ i, starEach (e :: es) (F.X i).env = (false, eval e (F.X i).env) :: starEach es (F.X i).env := by intro _; rfl) : RAs F (e :: es) (asV wa wb) (.fz :: ms) is := by
  obtain ⟨ta, a1, a2⟩ := ha
  obtain ⟨tb, b1, b2⟩ := hb
  exact ⟨_, fun i => pa_cons (a1 i) (b1 i) (hs i), las_v a2 b2⟩
theorem ras_s {es : List Expr} {x : Str} {wb : WAs} {ms : List Md} {is : List Nat} (k : Nat) (hb : RAs F es wb ms is) (hN : ∀ i, (F.X i).N[k]? = some x := by intro _; rfl) (hv : ∀ i, Vis (F.X i).env.scope x := by intro _; first | exact Or.inl rfl | exact Or.inr (Or.inl rfl) | exact Or.inr (Or.inr rfl))
    (hd : (x == ("__debug__" : Str)) = false := by decide) (hcd : (x == ("__classdict__" : Str)) = false := by decide)
    (hs : ∀ i, starEach (.Name x pos :: es) (F.X i).env = (false, eval (.Name x pos) (F.X i).env) :: starEach es (F.X i).env := by intro _; rfl) : RAs F (.Name x pos :: es) (asS k wb) (.io :: ms) (k :: is) := by
  obtain ⟨tb, b1, b2⟩ := hb
  exact ⟨_, fun i => pa_cons (pe_var (hN i) (hv i) hd hcd) (b1 i) (hs i), las_s k b2⟩
theorem rks_nil : RKs F [] asN [] [] := ⟨tNil, fun _ => pk_nil, las_nil⟩
theorem rks_v {nm : Option Str} {kpos : Pos} {kws : List Keyword} {wa : WE} {wb : WAs} {ms : List Md} {is : List Nat} (ha : RE F e wa) (hb : RKs F kws wb ms is) : RKs F (⟨nm, e, kpos⟩ :: kws) (asV wa wb) (.fz :: ms) is := by
  obtain ⟨ta, a1, a2⟩ := ha
  obtain ⟨tb, b1, b2⟩ := hb
  exact ⟨_, fun i => pk_cons (a1 i) (b1 i), las_v a2 b2⟩
theorem rks_s {nm : Option Str} {x : Str} {kpos : Pos} {kws : List Keyword} {wb : WAs} {ms : List Md} {is : List Nat} (k : Nat) (hb : RKs F kws wb ms is) (hN : ∀ i, (F.X i).N[k]? = some x := by intro _; rfl) (hv : ∀ i, Vis (F.X i).env.scope x := by intro _; first | exact Or.inl rfl | exact Or.inr (Or.inl rfl) | exact Or.inr (Or.inr rfl))
    (hd : (x == ("__debug__" : Str)) = false := by decide) (hcd : (x == ("__classdict__" : Str)) = false := by decide) : RKs F (⟨nm, .Name x pos, kpos⟩ :: kws) (asS k wb) (.io :: ms) (k :: is) := by
  obtain ⟨tb, b1, b2⟩ := hb
  exact ⟨_, fun i => pk_cons (pe_var (hN i) (hv i) hd hcd) (b1 i), las_s k b2⟩

/-! ### calls -/
/-- how n values and the keywords ks, these in the parameters' order, are bound -/
def Bd (fd : FuncData) (ps : List Str) (n : Nat) (ks : List Str) : Prop := ∀ us ws : List Value, us.length = n → ws.length = ks.length → bindArgs fd ⟨us, ks.zip ws⟩ = pure (ps.zip (us ++ ws))
theorem bd_of {K : PySem.W.Frag} {x qual : Str} {st : Stmt} {f : Addr} {fd : FuncData} {ps : List Str} {n : Nat} {ks : List Str} (T : Fun K x qual st f fd)
    (h : ∀ (kV doc pm : Value) (an : Option Addr) (cdv ct : Value) (us ws : List Value), us.length = n → ws.length = ks.length → bindArgs (PySem.W.fnOf x qual (defArgs st) (defBody st) (defScope st) .none kV doc pm an cdv ct) ⟨us, ks.zip ws⟩ = pure (ps.zip (us ++ ws))) : Bd fd ps n ks := by
  obtain ⟨oc, od, kV, doc, pm, an, cdv, ct, osl, rfl, lk, hcd⟩ := T.ex
  exact h kV doc pm an cdv ct
section
variable {X : Cx} {W : WX} {k n : Nat} {f : Addr} {fd : FuncData} {ps ks : List Str} {sp : Sp} {x : Str} {p apos : Pos} {es : List Expr} {kws : List Keyword} {t tk : TA}
/-- from a body: the callee runs, and comes back -/
theorem back_of {pins : List (Addr × Obj)} {σ : L2.St} {H : Hp} {s : Shared} {Q : VK} {args : Args} (tkx : Takes X W) (I : Inv X pins σ H s) (h : codeAny (model X.prog X.w) X.A (.call (.ref f) args) (CR (L2.CX X.prog X.w) X.stack X.prog X.w H s Q (L2.WE W σ)) s) :
    codeAny (model X.prog X.w) X.A (.call (.ref f) args) (fun r s' => match r with | .ok (.ret u) => EP X pins σ Q u s' | .ok _ => False | .error e => X.xe e s') s :=
  codeAny_mono h fun r s' hq => by
    cases r with
    | error e => exact passAt tkx σ pins H s e s' I hq
    | ok fl =>
      cases fl with
      | ret u => exact I.after hq
      | _ => exact (show False from hq)
theorem run_g {pins : List (Addr × Obj)} {σ : L2.St} {H : Hp} {s : Shared} {Q : VK} {us ws : List Value} {vs zs : List V} (G : FnG X.prog X.w X.K X.mg X.base k f fd ps sp) (hr : Room k X.A) (hgd : X.A.guards = some []) (hb : Bd fd ps n ks) (tkx : Takes X W)
    (I : Inv X pins σ H s) (r : Vals vs us) (rz : Vals zs ws) (l1 : us.length = n) (l2 : ws.length = ks.length) (h : sp (vs ++ zs) H Q (L2.WE W σ)) : wpAny (model X.prog X.w) X.A (call (.ref f) us (ks.zip ws)) (EP X pins σ Q) X.xe s := by
  have e := G.go X.A X.stack s H ⟨us, ks.zip ws⟩ (us ++ ws) (vs ++ zs) Q (L2.WE W σ) hr hgd I.env0 (.of_eq (hb us ws l1 l2)) (r.append rz) h
  refine wpAny_call (codeAny_mono (back_of tkx I e) fun r s' hq => ?_)
  cases r with
  | error e => exact hq
  | ok fl =>
    cases fl with
    | ret u => exact hq
    | _ => exact (show False from hq)
def tCallG (W : WX) (sp : Sp) (n m : Nat) (t tk : TA) : TE := fun σ H Q => t σ H fun vs H1 => tk σ H1 fun zs H2 => vs.length = n ∧ zs.length = m ∧ sp (vs ++ zs) H2 Q (L2.WE W σ)
theorem pg_call (G : FnG X.prog X.w X.K X.mg X.base k f fd ps sp) (hr : Room k X.A) (hgd : X.A.guards = some []) (hg : Gl X x) (hm : X.mg x = some (.ref f)) (hk : PySem.W.keepIn X.K (.ref f) = true) (hb : Bd fd ps n []) (tkx : Takes X W) (ha : PA X (e :: es) t)
    (hdb : (x == ("__debug__" : Str)) = false := by decide) (he : starEach (e :: es) X.env = (false, eval e X.env) :: starEach es X.env := by rfl) (hpl : (backTo pos (starEach es X.env)).any (·.1) = false := by rfl) :
    PE X (.Call (.Name x p) (e :: es) [] pos) (tCallG W sp n 0 t tNil) := by
  refine ⟨fun pins s σ H Q I h => wpAny_Call_Name_kw (ld_glob I hg hm ?_ hdb)⟩
  refine PySem.W.callWith_K (h₀ := X.base) I.ok.mod.kin hk (thn (ha.run pos pins s σ H _ I h) fun us s1 hq => ?_) he hpl
  obtain ⟨vs, H1, I1, r, l1, _, q⟩ := hq
  exact ⟨I1.kIn, run_g (ws := []) (zs := []) G hr hgd hb tkx I1 r .nil (r.length.symm.trans l1) rfl q⟩
theorem pg_call0 (G : FnG X.prog X.w X.K X.mg X.base k f fd ps sp) (hr : Room k X.A) (hgd : X.A.guards = some []) (hg : Gl X x) (hm : X.mg x = some (.ref f)) (hk : PySem.W.keepIn X.K (.ref f) = true) (hb : Bd fd ps 0 []) (tkx : Takes X W)
    (hdb : (x == ("__debug__" : Str)) = false := by decide) : PE X (.Call (.Name x p) [] [] pos) (tCallG W sp 0 0 tNil tNil) := by
  refine ⟨fun pins s σ H Q I h => wpAny_Call_Name_kw (ld_glob I hg hm ?_ hdb)⟩
  exact PySem.W.callWith_K0 I.kIn hk (run_g (us := []) (ws := []) (vs := []) (zs := []) G hr hgd hb tkx I .nil .nil rfl rfl h.2.2)
theorem pg_callK (G : FnG X.prog X.w X.K X.mg X.base k f fd ps sp) (hr : Room k X.A) (hgd : X.A.guards = some []) (hg : Gl X x) (hm : X.mg x = some (.ref f)) (hk : PySem.W.keepIn X.K (.ref f) = true) (hb : Bd fd ps n ks) (tkx : Takes X W) (ha : PA X (e :: es) t) (hkw : PK X kws tk)
    (hall : (backToKw pos (keywordEach kws X.env)).all (·.1.isSome) = true := by rfl) (hks : (backToKw pos (keywordEach kws X.env)).filterMap (·.1) = ks := by rfl) (hdb : (x == ("__debug__" : Str)) = false := by decide)
    (he : starEach (e :: es) X.env = (false, eval e X.env) :: starEach es X.env := by rfl) (hpl : ((backTo pos (starEach (e :: es) X.env)).any (·.1) || (backToKw pos (keywordEach kws X.env)).any (·.1.isNone)) = false := by rfl) :
    PE X (.Call (.Name x p) (e :: es) kws pos) (tCallG W sp n ks.length t tk) := by
  refine ⟨fun pins s σ H Q I h => wpAny_Call_Name_kw (ld_glob I hg hm ?_ hdb)⟩
  refine PySem.W.callWith_KW (h₀ := X.base) I.ok.mod.kin hk hall (thn (ha.run pos pins s σ H _ I h) fun us s1 hq => ?_) hpl he
  obtain ⟨vs, H1, I1, r, q⟩ := hq
  refine thn (hkw.run pos pins s1 σ H1 _ I1 q) fun ws s2 hq2 => ?_
  obtain ⟨zs, H2, I2, rz, l1, l2, q2⟩ := hq2
  rw [hks]
  exact ⟨I2.kIn, run_g G hr hgd hb tkx I2 r rz (r.length.symm.trans l1) (rz.length.symm.trans l2) q2⟩
theorem pg_callK0 (G : FnG X.prog X.w X.K X.mg X.base k f fd ps sp) (hr : Room k X.A) (hgd : X.A.guards = some []) (hg : Gl X x) (hm : X.mg x = some (.ref f)) (hk : PySem.W.keepIn X.K (.ref f) = true) (hb : Bd fd ps 0 ks) (tkx : Takes X W) (hkw : PK X kws tk)
    (hall : (backToKw pos (keywordEach kws X.env)).all (·.1.isSome) = true := by rfl) (hks : (backToKw pos (keywordEach kws X.env)).filterMap (·.1) = ks := by rfl) (hdb : (x == ("__debug__" : Str)) = false := by decide)
    (hpl : ((backTo pos (starEach [] X.env)).any (·.1) || (backToKw pos (keywordEach kws X.env)).any (·.1.isNone)) = false := by rfl) :
    PE X (.Call (.Name x p) [] kws pos) (tCallG W sp 0 ks.length tNil tk) := by
  refine ⟨fun pins s σ H Q I h => wpAny_Call_Name_kw (ld_glob I hg hm ?_ hdb)⟩
  refine PySem.W.callWith_KW0 (h₀ := X.base) I.ok.mod.kin hk hall (thn (hkw.run pos pins s σ H _ I h) fun ws s2 hq2 => ?_) hpl
  obtain ⟨zs, H2, I2, rz, l1, l2, q2⟩ := hq2
  rw [hks]
  exact ⟨I2.kIn, run_g (us := []) (vs := []) G hr hgd hb tkx I2 .nil rz rfl (rz.length.symm.trans l2) q2⟩
end
/-- arguments appended -/
@[simp] def asApp (a b : WAs) : WAs := fun E ρ Q => a E ρ fun as ρ1 => b E ρ1 fun bs ρ2 => Q (as ++ bs) ρ2
theorem modes_app : ∀ (as bs : List Ar), modesOf (as ++ bs) = modesOf as ++ modesOf bs
  | [], _ => rfl
  | .v _ :: as, bs => congrArg (Md.fz :: ·) (modes_app as bs)
  | .s _ :: as, bs => congrArg (Md.io :: ·) (modes_app as bs)
theorem slots_app : ∀ (as bs : List Ar), slotsOf (as ++ bs) = slotsOf as ++ slotsOf bs
  | [], _ => rfl
  | .v _ :: as, bs => slots_app as bs
  | .s i :: as, bs => congrArg (i :: ·) (slots_app as bs)
theorem ar_len {vs : List V} {as : List Ar} {ms : List Md} (h : Paired (ArOk K σ Z) vs as) (m : modesOf as = ms) : vs.length = ms.length := by
  rw [pd_len h, ← m]
  have : ∀ as : List Ar, as.length = (modesOf as).length := by
    intro as
    induction as with
    | nil => rfl
    | cons a as ih => cases a <;> exact congrArg (· + 1) ih
  exact this as
theorem call_ok {t tk : TA} {wa wk : WAs} {m1 m2 ms : List Md} {i1 i2 : List Nat} {sp : DSp} {n m : Nat} (ha : LAs F t wa m1 i1) (hk : LAs F tk wk m2 i2) (hms : m1 ++ m2 = ms) (hn : m1.length = n) (hm : m2.length = m) (nd : (i1 ++ i2).Nodup) :
    LE F (tCallG F.W (spL F.K ms sp) n m t tk) (wCall sp (asApp wa wk)) := by
  refine LE.of fun B σ H ρ Z Q Q' E S X hw q => ha B σ H ρ Z _ _ E S X hw fun vs as H1 ρ1 Z1 S1 le1 p1 em1 es1 hw => hk B σ H1 ρ1 Z1 _ _ E S1 X hw fun zs bs H2 ρ2 Z2 S2 le2 p2 em2 es2 hw => ?_
  refine ⟨(ar_len p1 em1).trans hn, (ar_len p2 em2).trans hm, ?_⟩
  obtain ⟨ds, hd, hsp⟩ := withN_of hw
  have pa : Paired (ArOk F.K σ Z2) (vs ++ zs) (as ++ bs) := pd_app (pd_ArLe p1 le2) p2
  obtain ⟨fps, pf, ndf⟩ := S2.rp
  simp only [tmps, List.map_nil, List.append_nil] at pf
  have ns : (slotsOf (as ++ bs)).Nodup := by rw [slots_app, es1, es2]; exact nd
  obtain ⟨ads, hargs, pas⟩ := ar_args S2.len pf pa hd
  have hmod : modesOf (as ++ bs) = ms := by rw [modes_app, em1, em2, hms]
  rw [hmod] at hargs
  refine ⟨Z2, ds, ads, _, _, S2.sub, hargs, as_nodup ndf pas ns, hsp, fun s outs hq v H' Z' po res => ?_, fun C d outs hq v dx H' Z' po hdx r => ?_⟩
  · rw [← hmod] at po
    exact q v s H' _ Z' ((S2.after pf ndf pa ns hd pas po).2 v s res) hq
  · rw [← hmod] at po
    exact X σ H' _ Z' C dx v d (S2.after pf ndf pa ns hd pas po).1 hdx r hq
section
variable {k n : Nat} {f : Addr} {fd : FuncData} {ps ks : List Str} {sp : DSp} {x : Str} {p apos : Pos} {es : List Expr} {kws : List Keyword} {ms m1 m2 : List Md} {i1 i2 : List Nat} {wa wk : WAs}
/-- the def at f keeps its promise, wherever we are -/
def Kp (F : Fm) (k : Nat) (f : Addr) (fd : FuncData) (ps : List Str) (ms : List Md) (sp : DSp) : Prop := ∀ i, FnG (F.X i).prog (F.X i).w (F.X i).K (F.X i).mg (F.X i).base k f fd ps (spL F.K ms sp) ∧ Room k (F.X i).A
theorem re_call (G : Kp F k f fd ps ms sp) (hm : ∀ i, (F.X i).mg x = some (.ref f)) (hk : PySem.W.keepIn F.K (.ref f) = true) (hb : Bd fd ps n []) (ha : RAs F (e :: es) wa ms i1) (hg : ∀ i, Gl (F.X i) x := by intro _; rfl) (hn : ms.length = n := by rfl) (nd : i1.Nodup := by decide)
    (hdb : (x == ("__debug__" : Str)) = false := by decide) (he : ∀ i, starEach (e :: es) (F.X i).env = (false, eval e (F.X i).env) :: starEach es (F.X i).env := by intro _; rfl) (hpl : ∀ i, (backTo pos (starEach es (F.X i).env)).any (·.1) = false := by intro _; rfl) :
    RE F (.Call (.Name x p) (e :: es) [] pos) (wCall sp (asApp wa asN)) := by
  obtain ⟨t, a1, a2⟩ := ha
  exact ⟨_, fun i => pg_call (G i).1 (G i).2 (F.gd i) (hg i) (hm i) (by rw [F.hK i]; exact hk) hb (F.tk i) (a1 i) hdb (he i) (hpl i), call_ok a2 las_nil (by simp) hn rfl (by simpa using nd)⟩
theorem re_call0 (G : Kp F k f fd ps [] sp) (hm : ∀ i, (F.X i).mg x = some (.ref f)) (hk : PySem.W.keepIn F.K (.ref f) = true) (hb : Bd fd ps 0 []) (hg : ∀ i, Gl (F.X i) x := by intro _; rfl) (hdb : (x == ("__debug__" : Str)) = false := by decide) : RE F (.Call (.Name x p) [] [] pos) (wCall sp asN) := by
  refine ⟨_, fun i => pg_call0 (G i).1 (G i).2 (F.gd i) (hg i) (hm i) (by rw [F.hK i]; exact hk) hb (F.tk i) hdb, ?_⟩
  have h := call_ok (F := F) (sp := sp) (ms := []) (n := 0) (m := 0) las_nil las_nil rfl rfl rfl (by decide)
  exact h
theorem re_callK (G : Kp F k f fd ps ms sp) (hm : ∀ i, (F.X i).mg x = some (.ref f)) (hk : PySem.W.keepIn F.K (.ref f) = true) (hb : Bd fd ps n ks) (ha : RAs F (e :: es) wa m1 i1) (hkw : RKs F kws wk m2 i2) (hg : ∀ i, Gl (F.X i) x := by intro _; rfl) (hms : m1 ++ m2 = ms := by rfl) (hn : m1.length = n := by rfl) (hm2 : m2.length = ks.length := by rfl) (nd : (i1 ++ i2).Nodup := by decide)
    (hall : ∀ i, (backToKw pos (keywordEach kws (F.X i).env)).all (·.1.isSome) = true := by intro _; rfl) (hks : ∀ i, (backToKw pos (keywordEach kws (F.X i).env)).filterMap (·.1) = ks := by intro _; rfl) (hdb : (x == ("__debug__" : Str)) = false := by decide)
    (he : ∀ i, starEach (e :: es) (F.X i).env = (false, eval e (F.X i).env) :: starEach es (F.X i).env := by intro _; rfl) (hpl : ∀ i, ((backTo pos (starEach (e :: es) (F.X i).env)).any (·.1) || (backToKw pos (keywordEach kws (F.X i).env)).any (·.1.isNone)) = false := by intro _; rfl) :
    RE F (.Call (.Name x p) (e :: es) kws pos) (wCall sp (asApp wa wk)) := by
  obtain ⟨t, a1, a2⟩ := ha
  obtain ⟨u, b1, b2⟩ := hkw
  exact ⟨_, fun i => pg_callK (G i).1 (G i).2 (F.gd i) (hg i) (hm i) (by rw [F.hK i]; exact hk) hb (F.tk i) (a1 i) (b1 i) (hall i) (hks i) hdb (he i) (hpl i), call_ok a2 b2 hms hn hm2 nd⟩
theorem re_callK0 (G : Kp F k f fd ps ms sp) (hm : ∀ i, (F.X i).mg x = some (.ref f)) (hk : PySem.W.keepIn F.K (.ref f) = true) (hb : Bd fd ps 0 ks) (hkw : RKs F kws wk ms i2) (hg : ∀ i, Gl (F.X i) x := by intro _; rfl) (hm2 : ms.length = ks.length := by rfl) (nd : i2.Nodup := by decide)
    (hall : ∀ i, (backToKw pos (keywordEach kws (F.X i).env)).all (·.1.isSome) = true := by intro _; rfl) (hks : ∀ i, (backToKw pos (keywordEach kws (F.X i).env)).filterMap (·.1) = ks := by intro _; rfl) (hdb : (x == ("__debug__" : Str)) = false := by decide)
    (hpl : ∀ i, ((backTo pos (starEach [] (F.X i).env)).any (·.1) || (backToKw pos (keywordEach kws (F.X i).env)).any (·.1.isNone)) = false := by intro _; rfl) :
    RE F (.Call (.Name x p) [] kws pos) (wCall sp (asApp asN wk)) := by
  obtain ⟨u, b1, b2⟩ := hkw
  exact ⟨_, fun i => pg_callK0 (G i).1 (G i).2 (F.gd i) (hg i) (hm i) (by rw [F.hK i]; exact hk) hb (F.tk i) (b1 i) (hall i) (hks i) hdb (hpl i), call_ok las_nil b2 rfl rfl hm2 (by simpa using nd)⟩
end
end
end Pu

set_option Elab.async false
set_option linter.all false
set_option maxRecDepth 100000
/-! Pu, operators and builtins over plain data. -/
namespace Pu
open PySem L2 PySem.Spec PyProof.Rows

/-! ### data as PyData -/
mutual
def D.py : D → PyData
  | .non => .none
  | .bl b => .bool b
  | .int i => .int i
  | .str x => .str x
  | .tup xs => .tuple (pys xs)
  | .lst xs => .list (pys xs)
  | _ => .none
def pys : List D → List PyData
  | [] => []
  | x :: xs => x.py :: pys xs
end
mutual
def D.plain : D → Bool
  | .non => true
  | .bl _ => true
  | .int _ => true
  | .str x => PyData.strOk x
  | .tup xs => plains xs
  | .lst xs => plains xs
  | _ => false
def plains : List D → Bool
  | [] => true
  | x :: xs => x.plain && plains xs
end
def D.good (d : D) : Bool := d.plain && decide (d.py.depth ≤ 64)
abbrev beq (x y : D) : Bool := PyData.eqv x.py y.py
mutual
theorem lay_of : ∀ d : D, d.plain = true → d.py.canLay0 = true
  | .non, _ => rfl
  | .bl _, _ => rfl
  | .int _, _ => rfl
  | .str x, h => h
  | .tup xs, h => lays_of xs h
  | .lst xs, h => lays_of xs h
  | .dic _ _, h => by cases h
  | .ins _ _ _, h => by cases h
  | .scr _, h => by cases h
  | .fn _, h => by cases h
  | .ttp _, h => by cases h
  | .at _ _, h => by cases h
theorem lays_of : ∀ ds : List D, plains ds = true → PyData.canLayAll0 (pys ds) = true
  | [], _ => rfl
  | x :: xs, h => by
    have h : x.plain = true ∧ plains xs = true := Bool.and_eq_true_iff.mp h
    exact Bool.and_eq_true_iff.mpr ⟨lay_of x h.1, lays_of xs h.2⟩
end
theorem good_plain {d : D} (h : d.good = true) : d.plain = true := (Bool.and_eq_true_iff.mp h).1
theorem good_shaped {d : D} (h : d.good = true) : SeqAt.shaped d.py = true := by
  have := Bool.and_eq_true_iff.mp h
  exact Bool.and_eq_true_iff.mpr ⟨lay_of d this.1, this.2⟩
section
variable {K : PySem.W.Frag} {B : Bs} {σ : L2.St} {H : Hp} {ρ : En} {Z : Hp} {v : V} {tmp : List (V × Sl)}
mutual
theorem dp_of (k : Le Z H) : ∀ (d : D) (v : V), Rp K Z v d → d.plain = true → Dp K H v d.py
  | .non, _, h, _ => by cases h; exact .non
  | .bl _, _, h, _ => by cases h; exact .bl _
  | .int _, _, h, _ => by cases h; exact .int _
  | .str _, _, h, _ => by cases h; exact .str _
  | .tup ds, _, h, p => by
    cases h with
    | tup h1 h2 => exact .tup (.inl (rd_le h1 k)) (dps_of k ds _ h2 p)
  | .lst ds, _, h, p => by
    cases h with
    | lst h1 h2 => exact .lst (.of (k _ _ h1)) (dps_of k ds _ h2 p)
  | .dic _ _, _, _, p => by cases p
  | .ins _ _ _, _, _, p => by cases p
  | .scr _, _, _, p => by cases p
  | .fn _, _, _, p => by cases p
  | .ttp _, _, _, p => by cases p
  | .at _ _, _, _, p => by cases p
theorem dps_of (k : Le Z H) : ∀ (ds : List D) (vs : List V), RpL K Z vs ds → plains ds = true → DpAll K H vs (pys ds)
  | [], _, h, _ => by cases h; exact .nil
  | d :: ds, _, h, p => by
    have p : d.plain = true ∧ plains ds = true := Bool.and_eq_true_iff.mp p
    cases h with
    | cons h1 h2 => exact .cons (dp_of k d _ h1 p.1) (dps_of k ds _ h2 p.2)
end
theorem dp_rd (S : St1 K B σ H ρ Z []) {d : D} (h : Rd1 K Z H v d) (p : d.plain = true) : Dp K H v d.py := dp_of (fun _ _ e => e) d v (rd1_le S h) p
theorem dps_rd (S : St1 K B σ H ρ Z []) {vs : List V} {ds : List D} (h : RpL K Z vs ds) (p : plains ds = true) : DpAll K H vs (pys ds) := dps_of S.sub ds vs h p

/-! ### operands -/
theorem rd_int {i : Int} (h : Rd1 K Z H v (.int i)) : v = .int i := by
  rcases h with h | ⟨a, o, rfl, _, r⟩
  · cases h; rfl
  · cases o <;> exact r.elim
theorem rd_bl {i : Bool} (h : Rd1 K Z H v (.bl i)) : v = .bl i := by
  rcases h with h | ⟨a, o, rfl, _, r⟩
  · cases h; rfl
  · cases o <;> exact r.elim
theorem rd_str {i : Str} (h : Rd1 K Z H v (.str i)) : v = .str i := by
  rcases h with h | ⟨a, o, rfl, _, r⟩
  · cases h; rfl
  · cases o <;> exact r.elim
theorem rd_non (h : Rd1 K Z H v .non) : v = .non := by
  rcases h with h | ⟨a, o, rfl, _, r⟩
  · cases h; rfl
  · cases o <;> exact r.elim
theorem rd_fn {i : Nat} (h : Rd1 K Z H v (.fn i)) : v = .ref i := by
  rcases h with h | ⟨a, o, rfl, _, r⟩
  · cases h; rfl
  · cases o <;> exact r.elim
theorem rd_tup (S : St1 K B σ H ρ Z tmp) {ds : List D} (h : Rd1 K Z H v (.tup ds)) : ∃ a vs, v = .ref a ∧ Rd Z a (.tup vs) ∧ Rd H a (.tup vs) ∧ RpL K Z vs ds := by
  rcases h with h | ⟨a, o, rfl, _, r⟩
  · cases h with
    | tup h1 h2 => exact ⟨_, _, rfl, h1, rd_le h1 S.sub, h2⟩
  · cases o <;> exact r.elim
theorem rd_lst (S : St1 K B σ H ρ Z tmp) {ds : List D} (h : Rd1 K Z H v (.lst ds)) : ∃ a vs, v = .ref a ∧ H a = some (.lst vs) ∧ RpL K Z vs ds := by
  rcases h with h | ⟨a, o, rfl, e, r⟩
  · cases h with
    | lst h1 h2 => exact ⟨_, _, rfl, S.sub _ _ h1, h2⟩
  · cases o with
    | lst vs => exact ⟨_, _, rfl, e, r⟩
    | _ => exact (show False from r).elim
theorem rd_dic (S : St1 K B σ H ρ Z tmp) {ks : List Ky} {ds : List D} (h : Rd1 K Z H v (.dic ks ds)) : ∃ a kvs, v = .ref a ∧ H a = some (.dK kvs) ∧ kvs.map (·.1) = ks ∧ RpL K Z (kvs.map (·.2)) ds := by
  rcases h with h | ⟨a, o, rfl, e, r⟩
  · cases h with
    | dic h1 h2 h3 => exact ⟨_, _, rfl, S.sub _ _ h1, h2, h3⟩
  · cases o with
    | dK kvs => exact ⟨_, _, rfl, e, r.1, r.2⟩
    | _ => exact (show False from r).elim
theorem rd_ins (S : St1 K B σ H ρ Z tmp) {C : Nat} {fs : List Str} {ds : List D} (h : Rd1 K Z H v (.ins C fs ds)) : ∃ a dx kvs, v = .ref a ∧ Z a = some (.ins C dx kvs) ∧ H a = some (.ins C dx kvs) ∧ kvs.map (·.1) = fs ∧ RpL K Z (kvs.map (·.2)) ds := by
  rcases h with h | ⟨a, o, rfl, _, r⟩
  · cases h with
    | ins h1 h2 h3 => exact ⟨_, _, _, rfl, h1, S.sub _ _ h1, h2, h3⟩
  · cases o <;> exact r.elim
/-- an instance, told by its address or not -/
@[simp] def insOf : D → Option (Nat × List Str × List D)
  | .ins C fs xs => some (C, fs, xs)
  | .at _ d => insOf d
  | _ => none
theorem rp_ins : ∀ (d : D) {v : V} {C : Nat} {fs : List Str} {ds : List D}, Rp K Z v d → insOf d = some (C, fs, ds) → ∃ a dx kvs, v = .ref a ∧ Z a = some (.ins C dx kvs) ∧ kvs.map (·.1) = fs ∧ RpL K Z (kvs.map (·.2)) ds
  | .ins C' fs' xs', _, _, _, _, h, e => by
    cases e
    cases h with
    | ins h1 h2 h3 => exact ⟨_, _, _, rfl, h1, h2, h3⟩
  | .at a d, _, _, _, _, h, e => by
    cases h with
    | «at» h => exact rp_ins d h e
  | .non, _, _, _, _, _, e => by cases e
  | .bl _, _, _, _, _, _, e => by cases e
  | .int _, _, _, _, _, _, e => by cases e
  | .str _, _, _, _, _, _, e => by cases e
  | .tup _, _, _, _, _, _, e => by cases e
  | .lst _, _, _, _, _, _, e => by cases e
  | .dic _ _, _, _, _, _, _, e => by cases e
  | .scr _, _, _, _, _, _, e => by cases e
  | .fn _, _, _, _, _, _, e => by cases e
  | .ttp _, _, _, _, _, _, e => by cases e
theorem rd_insOf (S : St1 K B σ H ρ Z tmp) {d : D} {C : Nat} {fs : List Str} {ds : List D} (h : Rd1 K Z H v d) (e : insOf d = some (C, fs, ds)) : ∃ a dx kvs, v = .ref a ∧ Z a = some (.ins C dx kvs) ∧ H a = some (.ins C dx kvs) ∧ kvs.map (·.1) = fs ∧ RpL K Z (kvs.map (·.2)) ds := by
  rcases h with h | ⟨a, o, rfl, _, r⟩
  · obtain ⟨a, dx, kvs, rfl, h1, h2, h3⟩ := rp_ins d h e
    exact ⟨a, dx, kvs, rfl, h1, S.sub _ _ h1, h2, h3⟩
  · cases o <;> cases d <;> first | exact r.elim | cases e
theorem rd_scr (S : St1 K B σ H ρ Z tmp) {ns : List Int} (h : Rd1 K Z H v (.scr ns)) : ∃ a, v = .ref a ∧ SqL K H a (ns.map V.int) := by
  rcases h with h | ⟨a, o, rfl, _, r⟩
  · cases h with
    | scr h1 => exact ⟨_, rfl, sqL_le h1 S.sub⟩
  · cases o <;> exact r.elim
/-- a sequence -/
@[simp] def seqD : D → Option (List D)
  | .lst ds => some ds
  | .tup ds => some ds
  | .scr ns => some (ns.map D.int)
  | _ => none
theorem rd_seq (S : St1 K B σ H ρ Z tmp) {d : D} {ds : List D} (h : Rd1 K Z H v d) (e : seqD d = some ds) : ∃ a vs, v = .ref a ∧ (SqL K H a vs ∨ SqT K H a vs) ∧ RpL K Z vs ds := by
  cases d with
  | lst xs =>
    cases e
    obtain ⟨a, vs, rfl, e, r⟩ := rd_lst S h
    exact ⟨a, vs, rfl, .inl (.of e), r⟩
  | tup xs =>
    cases e
    obtain ⟨a, vs, rfl, _, e, r⟩ := rd_tup S h
    exact ⟨a, vs, rfl, .inr (.inl e), r⟩
  | scr ns =>
    cases e
    obtain ⟨a, rfl, e⟩ := rd_scr S h
    exact ⟨a, _, rfl, .inl e, RpL.ints ns⟩
  | _ => cases e
/-- a list, or the script -/
@[simp] def lstD : D → Option (List D)
  | .lst ds => some ds
  | .scr ns => some (ns.map D.int)
  | _ => none
theorem rd_lstD (S : St1 K B σ H ρ Z tmp) {d : D} {ds : List D} (h : Rd1 K Z H v d) (e : lstD d = some ds) : ∃ a vs, v = .ref a ∧ SqL K H a vs ∧ RpL K Z vs ds := by
  cases d with
  | lst xs =>
    cases e
    obtain ⟨a, vs, rfl, e, r⟩ := rd_lst S h
    exact ⟨a, vs, rfl, .of e, r⟩
  | scr ns =>
    cases e
    obtain ⟨a, rfl, e⟩ := rd_scr S h
    exact ⟨a, _, rfl, e, RpL.ints ns⟩
  | _ => cases e
end

/-! ### dicts -/
@[simp] def lookD : List Ky → List D → Ky → Option D
  | k' :: ks, x :: xs, k => if k' = k then some x else lookD ks xs k
  | _, _, _ => none
/-- a key -/
@[simp] def keyD : D → Option Ky
  | .int i => some (.inl i)
  | .str x => some (.inr x)
  | _ => none
theorem keyD_v {K : PySem.W.Frag} {Z H : Hp} {v : V} {d : D} {k : Ky} (h : Rd1 K Z H v d) (e : keyD d = some k) : v = kV k := by
  cases d with
  | int i => cases e; exact rd_int h
  | str x => cases e; exact rd_str h
  | _ => cases e
theorem look_val {K : PySem.W.Frag} {Z : Hp} (k : Ky) : ∀ {kvs : List (Key × V)} {ds : List D}, RpL K Z (kvs.map (·.2)) ds → (match lookD (kvs.map (·.1)) ds k with
  | some d => ∃ v, valV kvs k = some v ∧ Rp K Z v d
  | none => valV kvs k = none)
  | [], ds, h => by cases h; rfl
  | (k', v) :: kvs, ds, h => by
    cases h with
    | cons h1 h2 =>
      rename_i d ds
      show (match (if k' = k then some d else lookD (kvs.map (·.1)) ds k) with
        | some d => ∃ v', valV ((k', v) :: kvs) k = some v' ∧ Rp K Z v' d
        | none => valV ((k', v) :: kvs) k = none)
      by_cases e : k' = k
      · rw [if_pos e]
        exact ⟨v, valV_pos e, h1⟩
      · rw [if_neg e, valV_neg e]
        exact look_val k h2
theorem look_some {K : PySem.W.Frag} {Z : Hp} {k : Ky} {kvs : List (Key × V)} {ds : List D} {d : D} (h : RpL K Z (kvs.map (·.2)) ds) (e : lookD (kvs.map (·.1)) ds k = some d) : ∃ v, valV kvs k = some v ∧ Rp K Z v d := by
  have := look_val k h
  rw [e] at this
  exact this
theorem look_is {K : PySem.W.Frag} {Z : Hp} {k : Ky} {kvs : List (Key × V)} {ds : List D} (h : RpL K Z (kvs.map (·.2)) ds) : (valV kvs k).isSome = (lookD (kvs.map (·.1)) ds k).isSome := by
  have := look_val k h
  cases e : lookD (kvs.map (·.1)) ds k with
  | none => rw [e] at this; rw [show valV kvs k = none from this]; rfl
  | some d => rw [e] at this; obtain ⟨v, h1, _⟩ := (show ∃ v, valV kvs k = some v ∧ Rp K Z v d from this); rw [h1]; rfl
theorem op_dIn {X : Cx} (hu : X.A.units + 1 < cLine) : OpR X (compareOp .In) (fun y x H Q => ∃ a o, x = .ref a ∧ DGet H a y o ∧ Q (.bl o.isSome) H) := by
  rintro pins s σ H y x v u Q I ry rx ⟨a, o, rfl, g, q⟩
  obtain rfl : u = Value.ref a := rx
  exact d_in hu I g ry fun s3 I3 => ⟨.bl o.isSome, H, I3, rfl, q⟩
theorem op_dNotIn {X : Cx} (hu : X.A.units + 1 < cLine) : OpR X (compareOp .NotIn) (fun y x H Q => ∃ a o, x = .ref a ∧ DGet H a y o ∧ Q (.bl (!o.isSome)) H) := by
  rintro pins s σ H y x v u Q I ry rx ⟨a, o, rfl, g, q⟩
  obtain rfl : u = Value.ref a := rx
  exact d_notIn hu I g ry fun s3 I3 => ⟨.bl (!o.isSome), H, I3, rfl, q⟩

/-! ### operators on ints -/
section
variable {F : Fm}
@[simp] def kI (C : Int → Int → Prop) (g : Int → Int → Int) : K2 := fun x y Q => match x with
  | .int i => (match y with
    | .int j => C i j ∧ Q (.fz (.int (g i j)))
    | _ => False)
  | _ => False
@[simp] def kIb (g : Int → Int → Bool) : K2 := fun x y Q => match x with
  | .int i => (match y with
    | .int j => Q (.fz (.bl (g i j)))
    | _ => False)
  | _ => False
theorem kI_of {C : Int → Int → Prop} {g : Int → Int → Int} {x y : D} {Q : Sl → Prop} (h : kI C g x y Q) : ∃ i j, x = .int i ∧ y = .int j ∧ C i j ∧ Q (.fz (.int (g i j))) := by
  cases x with
  | int i =>
    cases y with
    | int j => exact ⟨i, j, rfl, rfl, h⟩
    | _ => exact (show False from h).elim
  | _ => exact (show False from h).elim
theorem kIb_of {g : Int → Int → Bool} {x y : D} {Q : Sl → Prop} (h : kIb g x y Q) : ∃ i j, x = .int i ∧ y = .int j ∧ Q (.fz (.bl (g i j))) := by
  cases x with
  | int i =>
    cases y with
    | int j => exact ⟨i, j, rfl, rfl, h⟩
    | _ => exact (show False from h).elim
  | _ => exact (show False from h).elim
theorem od_I {f : Value → Value → Sem Value} {C : Int → Int → Prop} {g : Int → Int → Int} (h : ∀ i, OpR (F.X i) f (rI C fun i j => .int (g i j))) : OpD F f (kI C g) :=
  ⟨_, h, fun B σ H ρ Z x y dx dy Q Q' S rx ry hk q => by
    obtain ⟨i, j, rfl, rfl, hc, hq⟩ := kI_of hk
    exact ⟨i, j, rd_int rx, rd_int ry, hc, q _ _ _ _ (S.have (.int _)) hq⟩⟩
theorem od_I0 {f : Value → Value → Sem Value} {g : Int → Int → Int} (h : ∀ i, OpR (F.X i) f (rI0 fun i j => .int (g i j))) : OpD F f (kI (fun _ _ => True) g) :=
  ⟨_, h, fun B σ H ρ Z x y dx dy Q Q' S rx ry hk q => by
    obtain ⟨i, j, rfl, rfl, hc, hq⟩ := kI_of hk
    exact ⟨i, j, rd_int rx, rd_int ry, q _ _ _ _ (S.have (.int _)) hq⟩⟩
theorem od_Ib {f : Value → Value → Sem Value} {g : Int → Int → Bool} (h : ∀ i, OpR (F.X i) f (rI0 fun i j => .bl (g i j))) : OpD F f (kIb g) :=
  ⟨_, h, fun B σ H ρ Z x y dx dy Q Q' S rx ry hk q => by
    obtain ⟨i, j, rfl, rfl, hq⟩ := kIb_of hk
    exact ⟨i, j, rd_int rx, rd_int ry, q _ _ _ _ (S.have (.bl _)) hq⟩⟩
def CPw (i j : Int) : Prop := 0 ≤ j ∧ (Builtin.Int.intBits i : Int) * j ≤ 2 ^ 27
abbrev kSub : K2 := kI (fun _ _ => True) fun i j => i - j
abbrev kMod : K2 := kI (fun _ j => 0 < j) fun i j => i % j
abbrev kModN : K2 := kI (fun _ j => j ≠ 0) fun i j => i.fmod j
abbrev kFdiv : K2 := kI CDiv fun i j => i / j
abbrev kFdivN : K2 := kI CDivN fun i j => i.fdiv j
abbrev kPow : K2 := kI CPw fun i j => i ^ j.toNat
abbrev kShl : K2 := kI CPow fun i j => i * 2 ^ j.toNat
abbrev kShr : K2 := kI (fun _ j => 0 ≤ j) fun i j => i / 2 ^ j.toNat
abbrev kAnd : K2 := kI (fun _ _ => True) Builtin.bitAnd
abbrev kOr : K2 := kI (fun _ _ => True) Builtin.bitOr
abbrev kXor : K2 := kI (fun _ _ => True) Builtin.bitXor
abbrev kLe : K2 := kIb fun i j => decide (i ≤ j)
abbrev kGt : K2 := kIb fun i j => decide (j < i)
abbrev kGe : K2 := kIb fun i j => decide (j ≤ i)
theorem od_sub : OpD F (binaryOp .Sub) kSub := od_I0 fun _ => op_sub
theorem od_mod : OpD F (binaryOp .Mod) kMod := od_I fun _ => op_mod
theorem od_modN : OpD F (binaryOp .Mod) kModN := od_I fun _ => op_modN
theorem od_fdiv : OpD F (binaryOp .FloorDiv) kFdiv := od_I fun _ => op_fdiv
theorem od_fdivN : OpD F (binaryOp .FloorDiv) kFdivN := od_I fun _ => op_fdivN
theorem od_pow : OpD F (binaryOp .Pow) kPow := od_I fun _ => opI fun _ _ _ _ _ _ _ hc q => pow_int hc.1 hc.2 q
theorem od_shl : OpD F (binaryOp .LShift) kShl := od_I fun _ => op_shl
theorem od_shr : OpD F (binaryOp .RShift) kShr := od_I fun _ => op_shr
theorem od_and : OpD F (binaryOp .BitAnd) kAnd := od_I0 fun _ => op_and
theorem od_or : OpD F (binaryOp .BitOr) kOr := od_I0 fun _ => op_or
theorem od_xor : OpD F (binaryOp .BitXor) kXor := od_I0 fun _ => op_xor
theorem od_le : OpD F (compareOp .LtE) kLe := od_Ib fun _ => op_le
theorem od_gt : OpD F (compareOp .Gt) kGt := od_Ib fun _ => op_gt
theorem od_ge : OpD F (compareOp .GtE) kGe := od_Ib fun _ => op_ge
@[simp] def kLt : K2 := fun x y Q => match x with
  | .int i => (match y with
    | .int j => Q (.fz (.bl (decide (i < j))))
    | _ => False)
  | .str i => (match y with
    | .str j => Q (.fz (.bl (decide (i.cps.toList < j.cps.toList))))
    | _ => False)
  | _ => False
theorem od_lt : OpD F (compareOp .Lt) kLt := ⟨_, fun _ => op_lt.or op_lt_str, fun B σ H ρ Z x y dx dy Q Q' S rx ry hk q => by
  cases dx with
  | int i =>
    cases dy with
    | int j => exact .inl ⟨i, j, rd_int rx, rd_int ry, q _ _ _ _ (S.have (.bl _)) hk⟩
    | _ => exact (show False from hk).elim
  | str i =>
    cases dy with
    | str j => exact .inr ⟨i, j, rd_str rx, rd_str ry, q _ _ _ _ (S.have (.bl _)) hk⟩
    | _ => exact (show False from hk).elim
  | _ => exact (show False from hk).elim⟩

/-! ### + and * -/
@[simp] def kAdd : K2 := fun x y Q => match x with
  | .int i => (match y with
    | .int j => Q (.fz (.int (i + j)))
    | _ => False)
  | .str i => (match y with
    | .str j => i.length + j.length ≤ sizeLine ∧ Q (.fz (.str (i ++ j)))
    | _ => False)
  | .lst i => (match y with
    | .lst j => i.length + j.length ≤ sizeLine ∧ Q (.ow (.lst (i ++ j)))
    | _ => False)
  | .tup i => (match y with
    | .tup j => i.length + j.length ≤ sizeLine ∧ Q (.fz (.tup (i ++ j)))
    | _ => False)
  | _ => False
theorem od_add : OpD F (binaryOp .Add) kAdd := by
  refine ⟨fun x y H Q => (((∃ i j, x = .int i ∧ y = .int j ∧ Q (.int (i + j)) H) ∨ (∃ i j, x = .str i ∧ y = .str j ∧ i.length + j.length ≤ sizeLine ∧ Q (.str (i ++ j)) H)) ∨ rCat x y H Q) ∨ rCatA F.K x y H Q, fun i => ?_, fun B σ H ρ Z x y dx dy Q Q' S rx ry hk q => ?_⟩
  · have h := ((op_add (X := F.X i)).or op_add_str).or op_cat |>.or op_catA
    rw [F.hK i] at h
    exact h
  · cases dx with
    | int i =>
      cases dy with
      | int j => exact .inl (.inl (.inl ⟨i, j, rd_int rx, rd_int ry, q _ _ _ _ (S.have (.int _)) hk⟩))
      | _ => exact (show False from hk).elim
    | str i =>
      cases dy with
      | str j => exact .inl (.inl (.inr ⟨i, j, rd_str rx, rd_str ry, hk.1, q _ _ _ _ (S.have (.str _)) hk.2⟩))
      | _ => exact (show False from hk).elim
    | lst i =>
      cases dy with
      | lst j =>
        obtain ⟨a, vs, rfl, ha, ra⟩ := rd_lst S rx
        obtain ⟨b, us, rfl, hb, rb⟩ := rd_lst S ry
        exact .inl (.inr ⟨a, b, vs, us, rfl, rfl, ha, hb, by rw [ra.len, rb.len]; exact hk.1, fun p hp => q _ _ _ _ (S.alloc1 (o := .lst _) (d := .lst _) hp (ra.app rb)) hk.2⟩)
      | _ => exact (show False from hk).elim
    | tup i =>
      cases dy with
      | tup j =>
        obtain ⟨a, vs, rfl, za, ha, ra⟩ := rd_tup S rx
        obtain ⟨b, us, rfl, zb, hb, rb⟩ := rd_tup S ry
        refine .inr ⟨a, b, vs, us, rfl, rfl, .inl ha, .inl hb, by rw [ra.len, rb.len]; exact hk.1, fun h0 => ?_, fun _ h0 => ?_, fun _ _ p hp => ?_⟩
        · subst h0
          cases ra
          exact q _ _ _ _ (S.have (.tup zb rb)) hk.2
        · subst h0
          cases rb
          exact q _ _ _ _ (S.have (.tup za ra)) (by have := hk.2; rw [List.append_nil] at this; exact this)
        · obtain ⟨S2, le2⟩ := S.allocZ (o := .tup (vs ++ us)) hp
          exact q _ _ _ _ (S2.have (.tup (.of upd_same) ((RpL.le le2 _ _ ra).app (RpL.le le2 _ _ rb)))) hk.2
      | _ => exact (show False from hk).elim
    | _ => exact (show False from hk).elim
@[simp] def kMul : K2 := fun x y Q => match x with
  | .int i => (match y with
    | .int j => CMul i j ∧ Q (.fz (.int (i * j)))
    | _ => False)
  | .lst i => (match y with
    | .int j => (-(2 ^ 63) ≤ j ∧ j < 2 ^ 63) ∧ i.length * j.toNat ≤ sizeLine ∧ Q (.ow (.lst (List.replicate j.toNat i).flatten))
    | _ => False)
  | _ => False
theorem RpL.rep {K : PySem.W.Frag} {Z : Hp} {vs : List V} {ds : List D} (r : RpL K Z vs ds) : ∀ n : Nat, RpL K Z (List.replicate n vs).flatten (List.replicate n ds).flatten
  | 0 => .nil
  | n + 1 => by rw [List.replicate_succ, List.replicate_succ, List.flatten_cons, List.flatten_cons]; exact r.app (RpL.rep r n)
theorem od_mul : OpD F (binaryOp .Mult) kMul := ⟨_, fun _ => op_mul.or op_rep, fun B σ H ρ Z x y dx dy Q Q' S rx ry hk q => by
  cases dx with
  | int i =>
    cases dy with
    | int j => exact .inl ⟨i, j, rd_int rx, rd_int ry, hk.1, q _ _ _ _ (S.have (.int _)) hk.2⟩
    | _ => exact (show False from hk).elim
  | lst i =>
    cases dy with
    | int j =>
      obtain ⟨a, vs, rfl, ha, ra⟩ := rd_lst S rx
      exact .inr ⟨a, j, vs, rfl, rd_int ry, ha, hk.1.1, hk.1.2, by rw [ra.len]; exact hk.2.1, fun p hp => q _ _ _ _ (S.alloc1 (o := .lst _) (d := .lst _) hp (ra.rep _)) hk.2.2⟩
    | _ => exact (show False from hk).elim
  | _ => exact (show False from hk).elim⟩
@[simp] def kU (g : Int → Int) : K1 := fun x Q => match x with
  | .int i => Q (.fz (.int (g i)))
  | _ => False
abbrev kNeg : K1 := kU fun i => -i
abbrev kInv : K1 := kU Builtin.bitNot
theorem ud_U {f : Value → Sem Value} {g : Int → Int} (h : ∀ i, UnR (F.X i) f (rU fun i => .int (g i))) : UnD F f (kU g) := ⟨_, h, fun B σ H ρ Z x dx Q Q' S rx hk q => by
  cases dx with
  | int i => exact ⟨i, rd_int rx, q _ _ _ _ (S.have (.int _)) hk⟩
  | _ => exact (show False from hk).elim⟩
theorem ud_neg : UnD F (unaryOp .USub) kNeg := ud_U fun _ => un_neg
theorem ud_inv : UnD F (unaryOp .Invert) kInv := ud_U fun _ => un_inv

/-! ### ==, !=, in -/
@[simp] def bothGood (x y : D) (P : Prop) : Prop := x.good = true ∧ y.good = true ∧ P
@[simp] def kEq : K2 := fun x y Q => match x with
  | .int i => (match y with
    | .int j => Q (.fz (.bl (i == j)))
    | y => bothGood (.int i) y (Q (.fz (.bl (beq (.int i) y)))))
  | .str i => (match y with
    | .str j => Q (.fz (.bl (decide (i = j))))
    | y => bothGood (.str i) y (Q (.fz (.bl (beq (.str i) y)))))
  | x => bothGood x y (Q (.fz (.bl (beq x y))))
@[simp] def kNe : K2 := fun x y Q => match x with
  | .int i => (match y with
    | .int j => Q (.fz (.bl (!(i == j))))
    | y => bothGood (.int i) y (Q (.fz (.bl (!beq (.int i) y)))))
  | .str i => (match y with
    | .str j => Q (.fz (.bl (!decide (i = j))))
    | y => bothGood (.str i) y (Q (.fz (.bl (!beq (.str i) y)))))
  | x => bothGood x y (Q (.fz (.bl (!beq x y))))
theorem un64 {n : Nat} (h : n + 80 < cLine) : n + 64 < cLine := by omega
theorem un1 {n : Nat} (h : n + 80 < cLine) : n + 1 < cLine := by omega
theorem un65 {n : Nat} (h : n + 80 < cLine) : n + 65 < cLine := by omega
theorem kEq_cases {x y : D} {Q : Sl → Prop} (h : kEq x y Q) : (∃ i j, x = .int i ∧ y = .int j ∧ Q (.fz (.bl (i == j)))) ∨ (∃ i j, x = .str i ∧ y = .str j ∧ Q (.fz (.bl (decide (i = j))))) ∨ bothGood x y (Q (.fz (.bl (beq x y)))) := by
  cases x with
  | int i =>
    cases y with
    | int j => exact .inl ⟨i, j, rfl, rfl, h⟩
    | _ => exact .inr (.inr h)
  | str i =>
    cases y with
    | str j => exact .inr (.inl ⟨i, j, rfl, rfl, h⟩)
    | _ => exact .inr (.inr h)
  | _ => exact .inr (.inr h)
theorem kNe_cases {x y : D} {Q : Sl → Prop} (h : kNe x y Q) : (∃ i j, x = .int i ∧ y = .int j ∧ Q (.fz (.bl (!(i == j))))) ∨ (∃ i j, x = .str i ∧ y = .str j ∧ Q (.fz (.bl (!decide (i = j))))) ∨ bothGood x y (Q (.fz (.bl (!beq x y)))) := by
  cases x with
  | int i =>
    cases y with
    | int j => exact .inl ⟨i, j, rfl, rfl, h⟩
    | _ => exact .inr (.inr h)
  | str i =>
    cases y with
    | str j => exact .inr (.inl ⟨i, j, rfl, rfl, h⟩)
    | _ => exact .inr (.inr h)
  | _ => exact .inr (.inr h)
theorem od_eq : OpD F (compareOp .Eq) kEq := by
  refine ⟨fun x y H Q => rEq x y H Q ∨ rEqD F.K x y H Q, fun i => ?_, fun B σ H ρ Z x y dx dy Q Q' S rx ry hk q => ?_⟩
  · have h := (op_eq (X := F.X i)).or (op_eqD (un64 (F.un i)))
    rw [F.hK i] at h
    exact h
  · rcases kEq_cases hk with ⟨i, j, rfl, rfl, hq⟩ | ⟨i, j, rfl, rfl, hq⟩ | ⟨g1, g2, hq⟩
    · rw [rd_int rx, rd_int ry]
      exact .inl ⟨rfl, by rw [dec_int]; exact q _ _ _ _ (S.have (.bl _)) hq⟩
    · rw [rd_str rx, rd_str ry]
      refine .inl ⟨rfl, ?_⟩
      have e : decide (V.str i = V.str j) = decide (i = j) := by
        by_cases h : i = j
        · simp [h]
        · simp [h]
      rw [e]
      exact q _ _ _ _ (S.have (.bl _)) hq
    · exact .inr ⟨_, _, dp_rd S rx (good_plain g1), dp_rd S ry (good_plain g2), good_shaped g1, good_shaped g2, q _ _ _ _ (S.have (.bl _)) hq⟩
theorem od_ne : OpD F (compareOp .NotEq) kNe := by
  refine ⟨fun x y H Q => rNe x y H Q ∨ rNeD F.K x y H Q, fun i => ?_, fun B σ H ρ Z x y dx dy Q Q' S rx ry hk q => ?_⟩
  · have h := (op_ne (X := F.X i)).or (op_neD (un64 (F.un i)))
    rw [F.hK i] at h
    exact h
  · rcases kNe_cases hk with ⟨i, j, rfl, rfl, hq⟩ | ⟨i, j, rfl, rfl, hq⟩ | ⟨g1, g2, hq⟩
    · rw [rd_int rx, rd_int ry]
      exact .inl ⟨rfl, by rw [dec_int]; exact q _ _ _ _ (S.have (.bl _)) hq⟩
    · rw [rd_str rx, rd_str ry]
      refine .inl ⟨rfl, ?_⟩
      have e : decide (V.str i = V.str j) = decide (i = j) := by
        by_cases h : i = j
        · simp [h]
        · simp [h]
      rw [e]
      exact q _ _ _ _ (S.have (.bl _)) hq
    · exact .inr ⟨_, _, dp_rd S rx (good_plain g1), dp_rd S ry (good_plain g2), good_shaped g1, good_shaped g2, q _ _ _ _ (S.have (.bl _)) hq⟩
/-- in a tuple -/
def rInT (K : PySem.W.Frag) : R2 := fun x y H Q => ∃ d ds, Dp K H x d ∧ Dp K H y (.tuple ds) ∧ SeqAt.shaped d = true ∧ SeqAt.shaped (.tuple ds) = true ∧ Q (.bl (ds.any fun z => PyData.eqv z d)) H
def rNotInT (K : PySem.W.Frag) : R2 := fun x y H Q => ∃ d ds, Dp K H x d ∧ Dp K H y (.tuple ds) ∧ SeqAt.shaped d = true ∧ SeqAt.shaped (.tuple ds) = true ∧ Q (.bl (!ds.any fun z => PyData.eqv z d)) H
theorem op_inT {X : Cx} (hu : X.A.units + 65 < cLine) : OpR X (compareOp .In) (rInT X.K) := by
  rintro pins s σ H x y v u Q I rx ry ⟨d, ds, hd, he, sd, se, q⟩
  obtain ⟨as, r1⟩ := Dp.reads I d x v hd rx
  obtain ⟨bs, r2⟩ := Dp.reads I (.tuple ds) y u he ry
  exact SeqAt.in_tuple_reads r2 r1 (SeqAt.canLay_of_shaped se) (SeqAt.canLay_of_shaped sd) (room_in_shaped sd hu) ⟨.bl _, H, I, rfl, q⟩
theorem op_notInT {X : Cx} (hu : X.A.units + 65 < cLine) : OpR X (compareOp .NotIn) (rNotInT X.K) := by
  rintro pins s σ H x y v u Q I rx ry ⟨d, ds, hd, he, sd, se, q⟩
  obtain ⟨as, r1⟩ := Dp.reads I d x v hd rx
  obtain ⟨bs, r2⟩ := Dp.reads I (.tuple ds) y u he ry
  exact SeqAt.notIn_tuple_reads r2 r1 (SeqAt.canLay_of_shaped se) (SeqAt.canLay_of_shaped sd) (room_in_shaped sd hu) ⟨.bl _, H, I, rfl, q⟩
abbrev subS (i j : Str) : Bool := !(Builtin.Str.occurrences j i 0 j.length 1).isEmpty
@[simp] def kIn : K2 := fun x y Q => match y with
  | .dic ks xs => (match keyD x with
    | some k => Q (.fz (.bl (lookD ks xs k).isSome))
    | none => False)
  | .lst ds => bothGood x (.lst ds) (Q (.fz (.bl (ds.any fun z => beq z x))))
  | .tup ds => bothGood x (.tup ds) (Q (.fz (.bl (ds.any fun z => beq z x))))
  | .str j => (match x with
    | .str i => Q (.fz (.bl (subS i j)))
    | _ => False)
  | _ => False
@[simp] def kNotIn : K2 := fun x y Q => match y with
  | .dic ks xs => (match keyD x with
    | some k => Q (.fz (.bl (!(lookD ks xs k).isSome)))
    | none => False)
  | .lst ds => bothGood x (.lst ds) (Q (.fz (.bl (!ds.any fun z => beq z x))))
  | .tup ds => bothGood x (.tup ds) (Q (.fz (.bl (!ds.any fun z => beq z x))))
  | .str j => (match x with
    | .str i => Q (.fz (.bl (!subS i j)))
    | _ => False)
  | _ => False
theorem any_pys (x : D) : ∀ ds : List D, ((pys ds).any fun z => PyData.eqv z x.py) = ds.any fun z => beq z x
  | [] => rfl
  | d :: ds => by
    show (PyData.eqv d.py x.py || (pys ds).any _) = _
    rw [any_pys x ds]
    rfl
theorem od_in : OpD F (compareOp .In) kIn := by
  refine ⟨fun x y H Q => (((∃ i j, x = .str i ∧ y = .str j ∧ Q (.bl (subS i j)) H) ∨ rInD F.K x y H Q) ∨ rInT F.K x y H Q) ∨ (∃ a o, y = .ref a ∧ DGet H a x o ∧ Q (.bl o.isSome) H), fun i => ?_, fun B σ H ρ Z x y dx dy Q Q' S rx ry hk q => ?_⟩
  · have h := (((op_in_str (X := F.X i)).or (op_inD (un65 (F.un i)))).or (op_inT (un65 (F.un i)))).or (op_dIn (un1 (F.un i)))
    rw [F.hK i] at h
    exact h
  · cases dy with
    | dic ks xs =>
      obtain ⟨p, kvs, rfl, e, ek, r⟩ := rd_dic S ry
      cases ekey : keyD dx with
      | none => unfold kIn at hk; simp only [ekey] at hk
      | some k =>
        unfold kIn at hk
        simp only [ekey] at hk
        refine .inr ⟨p, valV kvs k, rfl, by rw [keyD_v rx ekey]; exact .k e, q _ _ _ _ (S.have (.bl _)) ?_⟩
        rw [look_is r, ek]
        exact hk
    | lst ds =>
      obtain ⟨g1, g2, hq⟩ := (show bothGood _ _ _ from hk)
      exact .inl (.inl (.inr ⟨_, pys ds, dp_rd S rx (good_plain g1), dp_rd S ry (good_plain g2), good_shaped g1, good_shaped g2, by rw [any_pys]; exact q _ _ _ _ (S.have (.bl _)) hq⟩))
    | tup ds =>
      obtain ⟨g1, g2, hq⟩ := (show bothGood _ _ _ from hk)
      exact .inl (.inr ⟨_, pys ds, dp_rd S rx (good_plain g1), dp_rd S ry (good_plain g2), good_shaped g1, good_shaped g2, by rw [any_pys]; exact q _ _ _ _ (S.have (.bl _)) hq⟩)
    | str j =>
      cases dx with
      | str i => exact .inl (.inl (.inl ⟨i, j, rd_str rx, rd_str ry, q _ _ _ _ (S.have (.bl _)) hk⟩))
      | _ => exact (show False from hk).elim
    | _ => exact (show False from hk).elim
theorem od_notIn : OpD F (compareOp .NotIn) kNotIn := by
  refine ⟨fun x y H Q => (((∃ i j, x = .str i ∧ y = .str j ∧ Q (.bl (!subS i j)) H) ∨ rNotInD F.K x y H Q) ∨ rNotInT F.K x y H Q) ∨ (∃ a o, y = .ref a ∧ DGet H a x o ∧ Q (.bl (!o.isSome)) H), fun i => ?_, fun B σ H ρ Z x y dx dy Q Q' S rx ry hk q => ?_⟩
  · have h := (((op_notin_str (X := F.X i)).or (op_notInD (un65 (F.un i)))).or (op_notInT (un65 (F.un i)))).or (op_dNotIn (un1 (F.un i)))
    rw [F.hK i] at h
    exact h
  · cases dy with
    | dic ks xs =>
      obtain ⟨p, kvs, rfl, e, ek, r⟩ := rd_dic S ry
      cases ekey : keyD dx with
      | none => unfold kNotIn at hk; simp only [ekey] at hk
      | some k =>
        unfold kNotIn at hk
        simp only [ekey] at hk
        refine .inr ⟨p, valV kvs k, rfl, by rw [keyD_v rx ekey]; exact .k e, q _ _ _ _ (S.have (.bl _)) ?_⟩
        rw [look_is r, ek]
        exact hk
    | lst ds =>
      obtain ⟨g1, g2, hq⟩ := (show bothGood _ _ _ from hk)
      exact .inl (.inl (.inr ⟨_, pys ds, dp_rd S rx (good_plain g1), dp_rd S ry (good_plain g2), good_shaped g1, good_shaped g2, by rw [any_pys]; exact q _ _ _ _ (S.have (.bl _)) hq⟩))
    | tup ds =>
      obtain ⟨g1, g2, hq⟩ := (show bothGood _ _ _ from hk)
      exact .inl (.inr ⟨_, pys ds, dp_rd S rx (good_plain g1), dp_rd S ry (good_plain g2), good_shaped g1, good_shaped g2, by rw [any_pys]; exact q _ _ _ _ (S.have (.bl _)) hq⟩)
    | str j =>
      cases dx with
      | str i => exact .inl (.inl (.inl ⟨i, j, rd_str rx, rd_str ry, q _ _ _ _ (S.have (.bl _)) hk⟩))
      | _ => exact (show False from hk).elim
    | _ => exact (show False from hk).elim
end
end Pu

set_option Elab.async false
set_option linter.all false
set_option maxRecDepth 100000
/-! Pu, calls of builtins, subscripts, slices, methods that only read. -/
namespace Pu
open PySem L2 PySem.Spec PyProof.Rows

section
variable {F : Fm} {e a b : Expr} {es : List Expr} {pos p : Pos} {x : Str} {id T : String}
theorem LRs_call {r : List V → Hp → VK → Prop} {t : TA} {k : KN} {wa : WRs} (hr : ∀ B σ H ρ Z xs ds Q Q', St1 F.K B σ H ρ Z [] → Paired (Rd1 F.K Z H) xs ds → k ds Q' → Rc F B σ ρ Q' Q → r xs H Q) (ha : LRs F t wa) : LE F (tCB r t) (wB k wa) := by
  refine LE.of fun B σ H ρ Z Q Q' E S X hw q => ha B σ H ρ Z _ _ E S X hw fun xs rs H1 ρ1 Z1 S1 le1 o1 hw => ?_
  obtain ⟨ds, e1, hk⟩ := withN_of hw
  exact hr B σ H1 ρ1 Z1 xs ds Q _ S1 (S1.reads o1 e1) hk fun v s H' Z' S' hq => q v s H' ρ1 Z' S' hq
/-- f(e, ..), f a builtin -/
theorem re_b {k : KN} {wa : WRs} (hc : CallD F (.builtin id) k) (hm : ∀ i, (F.X i).mg x = none) (ha : RRs F (e :: es) wa) (hv : bootBuiltins x = some (.builtin id) := by rfl) (hg : ∀ i, Gl (F.X i) x := by intro _; rfl) (hn : x ≠ "__name__" := by decide) (hdb : (x == ("__debug__" : Str)) = false := by decide)
    (he : ∀ i, starEach (e :: es) (F.X i).env = (false, eval e (F.X i).env) :: starEach es (F.X i).env := by intro _; rfl) (hpl : ∀ i, (backTo pos (starEach es (F.X i).env)).any (·.1) = false := by intro _; rfl) : RE F (.Call (.Name x p) (e :: es) [] pos) (wB k wa) := by
  obtain ⟨r, h1, h2⟩ := hc
  obtain ⟨t, a1, a2⟩ := ha
  exact ⟨_, fun i => pe_callB (h1 i) (hg i) (hm i) hv (a1 i) hn hdb (he i) (hpl i), LRs_call h2 a2⟩
/-- T(e, ..), T a type -/
theorem re_ty {k : KN} {wa : WRs} (hc : CallD F (.type T) k) (hm : ∀ i, (F.X i).mg x = none) (ha : RRs F (e :: es) wa) (hv : bootBuiltins x = some (.type T) := by rfl) (hg : ∀ i, Gl (F.X i) x := by intro _; rfl) (hn : x ≠ "__name__" := by decide) (hdb : (x == ("__debug__" : Str)) = false := by decide)
    (he : ∀ i, starEach (e :: es) (F.X i).env = (false, eval e (F.X i).env) :: starEach es (F.X i).env := by intro _; rfl) (hpl : ∀ i, (backTo pos (starEach es (F.X i).env)).any (·.1) = false := by intro _; rfl) : RE F (.Call (.Name x p) (e :: es) [] pos) (wB k wa) := by
  obtain ⟨r, h1, h2⟩ := hc
  obtain ⟨t, a1, a2⟩ := ha
  exact ⟨_, fun i => pe_callTy (h1 i) (hg i) (hm i) hv (a1 i) hn hdb (he i) (hpl i), LRs_call h2 a2⟩
section
variable {K : PySem.W.Frag} {Z H : Hp}
theorem pd1 {α β : Type} {G : α → β → Prop} {xs : List α} {d : β} (h : Paired G xs [d]) : ∃ x, xs = [x] ∧ G x d := by
  cases h with
  | cons r t => cases t; exact ⟨_, rfl, r⟩
theorem pd2 {α β : Type} {G : α → β → Prop} {xs : List α} {d e : β} (h : Paired G xs [d, e]) : ∃ x y, xs = [x, y] ∧ G x d ∧ G y e := by
  cases h with
  | cons r t =>
    obtain ⟨y, rfl, q⟩ := pd1 t
    exact ⟨_, y, rfl, r, q⟩
end
@[simp] def withO {α : Type} (o : Option α) (k : α → Prop) : Prop := match o with
  | some x => k x
  | none => False
theorem withO_of {α : Type} {o : Option α} {k : α → Prop} (h : withO o k) : ∃ x, o = some x ∧ k x := by
  cases o with
  | none => exact (show False from h).elim
  | some x => exact ⟨x, rfl, h⟩
/-- a kernel of one argument, of two -/
@[simp] def k1 (f : D → (Sl → Prop) → Prop) : KN := fun ds Q => match ds with
  | [] => False
  | d :: r => match r with
    | [] => f d Q
    | _ :: _ => False
@[simp] def k2 (f : D → D → (Sl → Prop) → Prop) : KN := fun ds Q => match ds with
  | [] => False
  | d :: r => match r with
    | [] => False
    | e :: r => match r with
      | [] => f d e Q
      | _ :: _ => False
theorem k1_of {f : D → (Sl → Prop) → Prop} {ds : List D} {Q : Sl → Prop} (h : k1 f ds Q) : ∃ d, ds = [d] ∧ f d Q := by
  match ds, h with
  | [d], h => exact ⟨d, rfl, h⟩
theorem k2_of {f : D → D → (Sl → Prop) → Prop} {ds : List D} {Q : Sl → Prop} (h : k2 f ds Q) : ∃ d e, ds = [d, e] ∧ f d e Q := by
  match ds, h with
  | [d, e], h => exact ⟨d, e, rfl, h⟩
theorem cd1 {f : Value} {g : D → (Sl → Prop) → Prop} {r : List V → Hp → VK → Prop} (h1 : ∀ i, CallR (F.X i) f r)
    (h2 : ∀ B σ H ρ Z x d Q Q', St1 F.K B σ H ρ Z [] → Rd1 F.K Z H x d → g d Q' → Rc F B σ ρ Q' Q → r [x] H Q) : CallD F f (k1 g) :=
  ⟨r, h1, fun B σ H ρ Z xs ds Q Q' S rx hk q => by
    obtain ⟨d, rfl, hk⟩ := k1_of hk
    obtain ⟨x, rfl, rx1⟩ := pd1 rx
    exact h2 B σ H ρ Z x d Q Q' S rx1 hk q⟩
theorem cd2 {f : Value} {g : D → D → (Sl → Prop) → Prop} {r : List V → Hp → VK → Prop} (h1 : ∀ i, CallR (F.X i) f r)
    (h2 : ∀ B σ H ρ Z x y d e Q Q', St1 F.K B σ H ρ Z [] → Rd1 F.K Z H x d → Rd1 F.K Z H y e → g d e Q' → Rc F B σ ρ Q' Q → r [x, y] H Q) : CallD F f (k2 g) :=
  ⟨r, h1, fun B σ H ρ Z xs ds Q Q' S rx hk q => by
    obtain ⟨d, e, rfl, hk⟩ := k2_of hk
    obtain ⟨x, y, rfl, rx1, ry1⟩ := pd2 rx
    exact h2 B σ H ρ Z x y d e Q Q' S rx1 ry1 hk q⟩
@[simp] def gLen : D → (Sl → Prop) → Prop := fun d Q => match d with
  | .str y => y.length ≤ sizeLine ∧ Q (.fz (.int y.length))
  | .dic ks _ => Q (.fz (.int ks.length))
  | d => withO (seqD d) fun ds => Q (.fz (.int ds.length))
abbrev kLen : KN := k1 gLen
theorem call_len_dK {X : Cx} : CallR X (.builtin "len") (fun xs H Q => ∃ p kvs, xs = [V.ref p] ∧ H p = some (.dK kvs) ∧ Q (.int (kvs.length : Nat)) H) := by
  rintro pins s σ H xs us Q I r ⟨p, kvs, rfl, e, q⟩
  rw [Vals.ref1 r]
  exact d_len I (.of e) fun t s' I' => ⟨.int _, H, I', ⟨t, rfl⟩, q⟩
theorem cd_len : CallD F (.builtin "len") kLen := by
  refine cd1 (r := fun xs H Q => (∃ x n, xs = [x] ∧ LenV F.K x H n ∧ Q (.int n) H) ∨ (∃ p kvs, xs = [V.ref p] ∧ H p = some (.dK kvs) ∧ Q (.int (kvs.length : Nat)) H)) (fun i => ?_) fun B σ H ρ Z x d Q Q' S rx hk q => ?_
  · have h := (call_len (X := F.X i)).or call_len_dK
    rw [F.hK i] at h
    exact h
  · have sq : ∀ {ds : List D}, seqD d = some ds → Q' (.fz (.int ds.length)) → (∃ x' n, [x] = [x'] ∧ LenV F.K x' H n ∧ Q (.int n) H) := fun {ds} e hq => by
      obtain ⟨p, vs, rfl, hs, r⟩ := rd_seq S rx e
      refine ⟨_, vs.length, rfl, ?_, q _ _ _ _ (S.have (.int _)) (by rw [r.len]; exact hq)⟩
      rcases hs with hs | hs
      · exact .inl ⟨vs, hs, rfl⟩
      · exact .inr ⟨vs, hs, rfl⟩
    cases d with
    | str y => exact .inl ⟨x, y.length, rfl, by rw [rd_str rx]; exact ⟨hk.1, rfl⟩, q _ _ _ _ (S.have (.int _)) hk.2⟩
    | dic ks xs =>
      obtain ⟨p, kvs, rfl, e, ek, r⟩ := rd_dic S rx
      refine .inr ⟨p, kvs, rfl, e, q _ _ _ _ (S.have (.int _)) ?_⟩
      have : kvs.length = ks.length := by rw [← ek, List.length_map]
      rw [this]
      exact hk
    | _ =>
      unfold gLen at hk
      obtain ⟨ds, e, hq⟩ := withO_of hk
      exact .inl (sq e hq)
@[simp] def gAbs : D → (Sl → Prop) → Prop := fun d Q => match d with
  | .int i => Q (.fz (.int (if i < 0 then -i else i)))
  | _ => False
abbrev kAbs : KN := k1 gAbs
theorem cd_abs : CallD F (.builtin "abs") kAbs := cd1 (fun _ => call_abs) fun B σ H ρ Z x d Q Q' S rx hk q => by
  cases d with
  | int i => exact ⟨i, by rw [rd_int rx], q _ _ _ _ (S.have (.int _)) hk⟩
  | _ => exact (show False from hk).elim
@[simp] def gInt : D → (Sl → Prop) → Prop := fun d Q => match d with
  | .int i => Q (.fz (.int i))
  | .bl b => Q (.fz (.int (if b then 1 else 0)))
  | _ => False
abbrev kInt : KN := k1 gInt
theorem cd_int : CallD F (.type "int") kInt := cd1 (fun _ => call_int1) fun B σ H ρ Z x d Q Q' S rx hk q => by
  cases d with
  | int i => exact .inl ⟨i, by rw [rd_int rx], q _ _ _ _ (S.have (.int _)) hk⟩
  | bl i => exact .inr ⟨i, by rw [rd_bl rx], q _ _ _ _ (S.have (.int _)) hk⟩
  | _ => exact (show False from hk).elim
@[simp] def gStr : D → (Sl → Prop) → Prop := fun d Q => match d with
  | .int i => i.natAbs.log2 < 1920 ∧ Q (.fz (.str (toString i)))
  | _ => False
abbrev kStr : KN := k1 gStr
theorem cd_str : CallD F (.type "str") kStr := cd1 (fun _ => call_str_int) fun B σ H ρ Z x d Q Q' S rx hk q => by
  cases d with
  | int i => exact ⟨i, by rw [rd_int rx], hk.1, q _ _ _ _ (S.have (.str _)) hk.2⟩
  | _ => exact (show False from hk).elim
abbrev kMax2 : KN := k2 (kI (fun _ _ => True) fun i j => if j > i then j else i)
abbrev kMin2 : KN := k2 (kI (fun _ _ => True) fun i j => if j < i then j else i)
theorem cd_max2 : CallD F (.builtin "max") kMax2 := cd2 (fun i => call_max2 (F.calm i)) fun B σ H ρ Z x y d e Q Q' S rx ry hk q => by
  obtain ⟨i, j, rfl, rfl, _, hq⟩ := kI_of hk
  exact ⟨i, j, by rw [rd_int rx, rd_int ry], q _ _ _ _ (S.have (.int _)) hq⟩
theorem cd_min2 : CallD F (.builtin "min") kMin2 := cd2 (fun i => call_min2 (F.calm i)) fun B σ H ρ Z x y d e Q Q' S rx ry hk q => by
  obtain ⟨i, j, rfl, rfl, _, hq⟩ := kI_of hk
  exact ⟨i, j, by rw [rd_int rx, rd_int ry], q _ _ _ _ (S.have (.int _)) hq⟩
@[simp] def gSeq (f : List D → Sl) : D → (Sl → Prop) → Prop := fun d Q => withO (seqD d) fun ds => Q (f ds)
abbrev kList : KN := k1 (gSeq fun ds => .ow (.lst ds))
abbrev kTuple : KN := k1 (gSeq fun ds => .fz (.tup ds))
theorem cd_list : CallD F (.type "list") kList := by
  refine cd1 (r := fun xs H Q => ∃ p ys, xs = [V.ref p] ∧ (SqL F.K H p ys ∨ SqT F.K H p ys) ∧ ∀ l, H l = none → Q (.ref l) (upd H l (.lst ys))) (fun i => ?_) fun B σ H ρ Z x d Q Q' S rx hk q => ?_
  · have h := call_list_of (X := F.X i)
    rw [F.hK i] at h
    exact h
  · obtain ⟨ds, e, hq⟩ := withO_of hk
    obtain ⟨p, vs, rfl, hs, r⟩ := rd_seq S rx e
    exact ⟨p, vs, rfl, hs, fun l hl => q _ _ _ _ (S.alloc1 (o := .lst _) (d := .lst _) hl r) hq⟩
theorem cd_tuple : CallD F (.type "tuple") kTuple := by
  refine cd1 (r := fun xs H Q => ∃ p ys, xs = [V.ref p] ∧ ((SqL F.K H p ys ∧ ∀ l, H l = none → Q (.ref l) (upd H l (.tup ys))) ∨ (SqT F.K H p ys ∧ Q (.ref p) H))) (fun i => ?_) fun B σ H ρ Z x d Q Q' S rx hk q => ?_
  · have h := call_tuple_of (X := F.X i)
    rw [F.hK i] at h
    exact h
  · obtain ⟨ds, e, hq⟩ := withO_of hk
    have new : ∀ {p : Addr} {vs : List V}, RpL F.K Z vs ds → ∀ l, H l = none → Q (.ref l) (upd H l (.tup vs)) := fun {p vs} r l hl => by
      obtain ⟨S2, le2⟩ := S.allocZ (o := .tup vs) hl
      exact q _ _ _ _ (S2.have (.tup (.of upd_same) (RpL.le le2 _ _ r))) hq
    cases d with
    | lst xs =>
      cases e
      obtain ⟨p, vs, rfl, hs, r⟩ := rd_lst S rx
      exact ⟨p, vs, rfl, .inl ⟨.of hs, new (p := p) r⟩⟩
    | tup xs =>
      cases e
      obtain ⟨p, vs, rfl, hz, hs, r⟩ := rd_tup S rx
      exact ⟨p, vs, rfl, .inr ⟨.inl hs, q _ _ _ _ (S.have (.tup hz r)) hq⟩⟩
    | scr ns =>
      cases e
      obtain ⟨p, rfl, hs⟩ := rd_scr S rx
      exact ⟨p, _, rfl, .inl ⟨hs, new (p := p) (RpL.ints ns)⟩⟩
    | _ => cases e
/-- all of a kind -/
def intsOf : List D → Option (List Int)
  | [] => some []
  | .int i :: r => match intsOf r with
    | some is => some (i :: is)
    | none => none
  | _ :: _ => none
def blsOf : List D → Option (List Bool)
  | [] => some []
  | .bl i :: r => match blsOf r with
    | some is => some (i :: is)
    | none => none
  | _ :: _ => none
def strsOf : List D → Option (List Str)
  | [] => some []
  | .str i :: r => match strsOf r with
    | some is => some (i :: is)
    | none => none
  | _ :: _ => none
theorem intsOf_eq : ∀ {ds : List D} {is : List Int}, intsOf ds = some is → ds = is.map D.int
  | [], is, h => by cases h; rfl
  | d :: ds, is, h => by
    cases d with
    | int i =>
      unfold intsOf at h
      cases e : intsOf ds with
      | none => rw [e] at h; cases h
      | some js => rw [e] at h; cases h; rw [intsOf_eq e]; rfl
    | _ => cases h
theorem blsOf_eq : ∀ {ds : List D} {is : List Bool}, blsOf ds = some is → ds = is.map D.bl
  | [], is, h => by cases h; rfl
  | d :: ds, is, h => by
    cases d with
    | bl i =>
      unfold blsOf at h
      cases e : blsOf ds with
      | none => rw [e] at h; cases h
      | some js => rw [e] at h; cases h; rw [blsOf_eq e]; rfl
    | _ => cases h
theorem strsOf_eq : ∀ {ds : List D} {is : List Str}, strsOf ds = some is → ds = is.map D.str
  | [], is, h => by cases h; rfl
  | d :: ds, is, h => by
    cases d with
    | str i =>
      unfold strsOf at h
      cases e : strsOf ds with
      | none => rw [e] at h; cases h
      | some js => rw [e] at h; cases h; rw [strsOf_eq e]; rfl
    | _ => cases h
theorem intsOf_map : ∀ is : List Int, intsOf (is.map D.int) = some is
  | [] => rfl
  | i :: is => by show (match intsOf (is.map D.int) with | some is => some (i :: is) | none => none) = _; rw [intsOf_map is]
theorem blsOf_map : ∀ is : List Bool, blsOf (is.map D.bl) = some is
  | [] => rfl
  | i :: is => by show (match blsOf (is.map D.bl) with | some is => some (i :: is) | none => none) = _; rw [blsOf_map is]
theorem strsOf_map : ∀ is : List Str, strsOf (is.map D.str) = some is
  | [] => rfl
  | i :: is => by show (match strsOf (is.map D.str) with | some is => some (i :: is) | none => none) = _; rw [strsOf_map is]
abbrev kSum : KN := k1 fun d Q => withO ((lstD d).bind intsOf) fun is => Q (.fz (.int is.sum))
abbrev kAny : KN := k1 fun d Q => withO ((lstD d).bind blsOf) fun is => Q (.fz (.bl (is.any _root_.id)))
abbrev kAll : KN := k1 fun d Q => withO ((lstD d).bind blsOf) fun is => Q (.fz (.bl (is.all _root_.id)))
theorem rd_ints {B : Bs} {σ : L2.St} {H : Hp} {ρ : En} {Z : Hp} {x : V} {d : D} {is : List Int} (S : St1 F.K B σ H ρ Z []) (rx : Rd1 F.K Z H x d) (e : (lstD d).bind intsOf = some is) : ∃ a, x = .ref a ∧ SqL F.K H a (is.map V.int) := by
  obtain ⟨ds, e1, e2⟩ := Option.bind_eq_some_iff.mp e
  obtain ⟨a, vs, rfl, hs, r⟩ := rd_lstD S rx e1
  rw [intsOf_eq e2] at r
  rw [← RpL.of_ints r]
  exact ⟨a, rfl, hs⟩
theorem rd_bls {B : Bs} {σ : L2.St} {H : Hp} {ρ : En} {Z : Hp} {x : V} {d : D} {is : List Bool} (S : St1 F.K B σ H ρ Z []) (rx : Rd1 F.K Z H x d) (e : (lstD d).bind blsOf = some is) : ∃ a, x = .ref a ∧ SqL F.K H a (is.map V.bl) := by
  obtain ⟨ds, e1, e2⟩ := Option.bind_eq_some_iff.mp e
  obtain ⟨a, vs, rfl, hs, r⟩ := rd_lstD S rx e1
  rw [blsOf_eq e2] at r
  rw [← RpL.of_bls r]
  exact ⟨a, rfl, hs⟩
theorem cd_sum : CallD F (.builtin "sum") kSum := cd1 (r := rSum F.K) (fun i => by rw [← F.hK i]; exact cr_sum (F.calm i)) fun B σ H ρ Z x d Q Q' S rx hk q => by
  obtain ⟨is, e, hq⟩ := withO_of hk
  obtain ⟨a, rfl, hs⟩ := rd_ints S rx e
  exact ⟨a, is, rfl, hs, q _ _ _ _ (S.have (.int _)) hq⟩
theorem cd_any : CallD F (.builtin "any") kAny := cd1 (r := rAny F.K) (fun i => by rw [← F.hK i]; exact cr_any (F.calm i)) fun B σ H ρ Z x d Q Q' S rx hk q => by
  obtain ⟨is, e, hq⟩ := withO_of hk
  obtain ⟨a, rfl, hs⟩ := rd_bls S rx e
  exact ⟨a, is, rfl, hs, q _ _ _ _ (S.have (.bl _)) hq⟩
theorem cd_all : CallD F (.builtin "all") kAll := cd1 (r := rAll F.K) (fun i => by rw [← F.hK i]; exact cr_all (F.calm i)) fun B σ H ρ Z x d Q Q' S rx hk q => by
  obtain ⟨is, e, hq⟩ := withO_of hk
  obtain ⟨a, rfl, hs⟩ := rd_bls S rx e
  exact ⟨a, is, rfl, hs, q _ _ _ _ (S.have (.bl _)) hq⟩

/-! ### subscripts -/
/-- d[k] -/
def rIxD : R2 := fun x y H Q => ∃ a v, x = .ref a ∧ DGet H a y (some v) ∧ Q v H
theorem ix_dic {X : Cx} (hu : X.A.units + 1 < cLine) : IxR X rIxD := by
  rintro value slice pins s σ H x y v u Q I rx ry ⟨a, z, rfl, g, q⟩ hs
  obtain rfl : v = Value.ref a := rx
  have hT := dict_typeIs I g
  have h := d_getItem (E := X.xe) hu I g ry fun w' s3 I3 rw' => (⟨z, H, I3, rw', q⟩ : EP X pins σ Q w' s3)
  unfold subscriptTail
  refine wpAny_bind ?_
  rw [getitemInPython_of_ne hT.not_modules]
  refine wpAny_bind (wpAny_specialOf hT PySem.F.slot_dict_getitem.lookup ?_)
  have fin : wpAny (model X.prog X.w) X.A (subscripted slice false (.ref a) u) (fun r s₃ => wpAny (model X.prog X.w) X.A (letTemporaryGo value (.ref a) r >>= fun _ => pure r) (EP X pins σ Q) X.xe s₃) X.xe s := by
    rw [hs]
    exact wpAny_operating (wpAny_mono h (fun r s₃ h₃ => wpAny_bind (wpAny_letTemporaryGo (wpAny_pure h₃))) fun _ _ x => x)
  first
    | exact wpAny_pure (wpAny_bind fin)
    | exact wpAny_bind (wpAny_pure (wpAny_bind fin))
    | exact wpAny_bind fin
@[simp] def kIx : K2 := fun x y Q => match x with
  | .dic ks xs => withO (keyD y) fun k => withO (lookD ks xs k) fun d => Q (.fz d)
  | x => kIxS x y Q
where kIxS : K2 := fun x y Q => match y with
  | .int i => (match x with
    | .str z => z.length ≤ sizeLine ∧ withO (atI z.cps.toList i) fun c => Q (.fz (.str ⟨#[c]⟩))
    | x => withO (seqD x) fun ds => withO (atI ds i) fun d => Q (.fz d))
  | _ => False
def IxD (F : Fm) (k : K2) : Prop := ∃ r : R2, (∀ i, IxR (F.X i) r) ∧ ∀ B σ H ρ Z x y dx dy Q Q', St1 F.K B σ H ρ Z [] → Rd1 F.K Z H x dx → Rd1 F.K Z H y dy → k dx dy Q' → Rc F B σ ρ Q' Q → r x y H Q
theorem atI_rp {K : PySem.W.Frag} {Z : Hp} {vs : List V} {ds : List D} {i : Int} {d : D} (r : RpL K Z vs ds) (e : atI ds i = some d) : ∃ v, atI vs i = some v ∧ Rp K Z v d := by
  unfold atI at e ⊢
  rw [r.len]
  obtain ⟨j, e1, e2⟩ := Option.bind_eq_some_iff.mp e
  obtain ⟨v, e3, q⟩ := r.get e2
  exact ⟨v, by rw [e1]; exact e3, q⟩
theorem ix_s : IxD F kIx.kIxS := by
  refine ⟨fun x y H Q => (rIxL F.K x y H Q ∨ rIxT F.K x y H Q) ∨ rIxS x y H Q, fun i => ?_, fun B σ H ρ Z x y dx dy Q Q' S rx ry hk q => ?_⟩
  · have h := ((ix_list (X := F.X i)).or ix_tup).or ix_str
    rw [F.hK i] at h
    exact h
  · cases dy with
    | int i =>
      have sq : (withO (seqD dx) fun ds => withO (atI ds i) fun d => Q' (.fz d)) → (rIxL F.K x y H Q ∨ rIxT F.K x y H Q) ∨ rIxS x y H Q := fun hk => by
        obtain ⟨ds, e1, hk⟩ := withO_of hk
        obtain ⟨d, e2, hq⟩ := withO_of hk
        obtain ⟨p, vs, rfl, hs, r⟩ := rd_seq S rx e1
        obtain ⟨v, e3, rv⟩ := atI_rp r e2
        rcases hs with hs | hs
        · exact .inl (.inl ⟨p, vs, i, v, rfl, rd_int ry, hs, e3, q _ _ _ _ (S.have rv) hq⟩)
        · exact .inl (.inr ⟨p, vs, i, v, rfl, rd_int ry, hs, e3, q _ _ _ _ (S.have rv) hq⟩)
      cases dx with
      | str z =>
        obtain ⟨hz, hk⟩ := (show _ ∧ _ from hk)
        obtain ⟨c, e2, hq⟩ := withO_of hk
        exact .inr ⟨z, i, c, rd_str rx, rd_int ry, hz, e2, q _ _ _ _ (S.have (.str _)) hq⟩
      | _ => exact sq hk
    | _ => exact (show False from hk).elim
theorem ix_d : IxD F kIx := by
  obtain ⟨r, h1, h2⟩ := ix_s (F := F)
  refine ⟨fun x y H Q => r x y H Q ∨ rIxD x y H Q, fun i => (h1 i).or (ix_dic (un1 (F.un i))), fun B σ H ρ Z x y dx dy Q Q' S rx ry hk q => ?_⟩
  cases dx with
  | dic ks xs =>
    unfold kIx at hk
    obtain ⟨k, e1, hk⟩ := withO_of hk
    obtain ⟨d, e2, hq⟩ := withO_of hk
    obtain ⟨p, kvs, rfl, e, ek, rr⟩ := rd_dic S rx
    obtain ⟨v, e3, rv⟩ := look_some rr (by rw [ek]; exact e2)
    exact .inr ⟨p, v, rfl, by rw [keyD_v ry e1, ← e3]; exact .k e, q _ _ _ _ (S.have rv) hq⟩
  | _ => unfold kIx at hk; exact .inl (h2 B σ H ρ Z x y _ dy Q Q' S rx ry hk q)
theorem re_ixR {k : K2} {wa wb : WR} (ho : IxD F k) (ha : RR F a wa) (hb : RR F b wb) (hs : PlainIx b := by intro _ _; rfl) : RE F (.Subscript a b pos) (wOp k wa wb) := by
  obtain ⟨r, h1, h2⟩ := ho
  obtain ⟨ta, a1, a2⟩ := ha
  obtain ⟨tb, b1, b2⟩ := hb
  exact ⟨_, fun i => pe_ix (h1 i) (a1 i) (b1 i) hs, two_ok a2 b2 h2⟩
theorem re_ix {wa wb : WR} (ha : RR F a wa) (hb : RR F b wb) (hs : PlainIx b := by intro _ _; rfl) : RE F (.Subscript a b pos) (wOp kIx wa wb) := re_ixR ix_d ha hb hs

/-! ### slices -/
/-- a part of a slice -/
abbrev WO := EX → En → (Option Int → En → Prop) → Prop
@[simp] def oN : WO := fun _ ρ Q => Q none ρ
@[simp] def oS (w : WR) : WO := fun E ρ Q => w E ρ fun r ρ1 => with1 (look ρ1 r) fun d => match d with
  | .int i => Q (some i) ρ1
  | _ => False
def LO (F : Fm) (t : TO) (w : WO) : Prop := ∀ B σ H ρ Z Q Q' E, St1 F.K B σ H ρ Z [] → ExOk F B E → w E ρ Q' → (∀ o H' ρ' Z', St1 F.K B σ H' ρ' Z' [] → Le Z Z' → Q' o ρ' → Q o H') → t σ H Q
def RO (F : Fm) (o : Option Expr) (w : WO) : Prop := ∃ t, (∀ i, PO (F.X i) o t) ∧ LO F t w
theorem ro_n : RO F none oN := ⟨_, fun _ => po_none, fun B σ H ρ Z Q Q' E S X hw q => q none H ρ Z S (fun _ _ z => z) hw⟩
theorem ro_s {w : WR} (h : RR F e w) : RO F (some e) (oS w) := by
  obtain ⟨t, a1, a2⟩ := h
  refine ⟨_, fun i => po_some (a1 i), fun B σ H ρ Z Q Q' E S X hw q => a2 B σ H ρ Z _ _ E S X hw fun x r H1 ρ1 Z1 S1 le1 o1 hw => ?_⟩
  obtain ⟨d, e1, hk⟩ := with1_of hw
  cases d with
  | int i => exact ⟨i, rd_int (S1.read o1 e1), q _ _ _ _ S1 le1 hk⟩
  | _ => exact (show False from hk).elim
def cutD (xs : List D) (lo hi : Option Int) : List D := (xs.drop (HT.sIx xs.length 0 lo)).take (HT.sIx xs.length xs.length hi - HT.sIx xs.length 0 lo)
@[simp] def kSl (x : D) (lo hi : Option Int) (Q : Sl → Prop) : Prop := match x with
  | .str z => z.length ≤ sizeLine ∧ Q (.fz (.str (cutS z lo hi)))
  | .lst ds => Q (.ow (.lst (cutD ds lo hi)))
  | .tup ds => Q (.fz (.tup (cutD ds lo hi)))
  | .scr ns => Q (.ow (.lst (cutD (ns.map D.int) lo hi)))
  | _ => False
@[simp] def wSl (a : WR) (l u : WO) : WE := fun E ρ Q => a E ρ fun r ρ1 => l E ρ1 fun lo ρ2 => u E ρ2 fun hi ρ3 => with1 (look ρ3 r) fun x => kSl x lo hi fun s => Q s ρ3
theorem cut_rp {K : PySem.W.Frag} {Z : Hp} {vs : List V} {ds : List D} {lo hi : Option Int} (r : RpL K Z vs ds) : RpL K Z (cutV vs lo hi) (cutD ds lo hi) := by
  unfold cutV cutD
  rw [r.len]
  exact (r.drop _).take _
theorem cut_whole {ds : List D} {lo hi : Option Int} (h : HT.sIx ds.length 0 lo = 0 ∧ HT.sIx ds.length ds.length hi = ds.length) : cutD ds lo hi = ds := by
  unfold cutD
  rw [h.1, h.2]
  simp
theorem re_sl {lo hi : Option Expr} {p2 : Pos} {wa : WR} {wl wu : WO} (ha : RR F a wa) (hl : RO F lo wl) (hu : RO F hi wu) : RE F (.Subscript a (.Slice lo hi none p2) pos) (wSl wa wl wu) := by
  obtain ⟨ta, a1, a2⟩ := ha
  obtain ⟨tl, l1, l2⟩ := hl
  obtain ⟨tu, u1, u2⟩ := hu
  refine ⟨tSl (fun x lo hi H Q => (rSlL F.K x lo hi H Q ∨ rSlA F.K x lo hi H Q) ∨ rSlS x lo hi H Q) ta tl tu, fun i => pe_slice ?_ (a1 i) (l1 i) (u1 i), LE.of fun B σ H ρ Z Q Q' E S X hw q => a2 B σ H ρ Z _ _ E S X hw fun x r H1 ρ1 Z1 S1 le1 o1 hw => l2 B σ H1 ρ1 Z1 _ _ E S1 X hw fun lo H2 ρ2 Z2 S2 le2 hw => u2 B σ H2 ρ2 Z2 _ _ E S2 X hw fun hi H3 ρ3 Z3 S3 le3 hw => ?_⟩
  · have h := ((sl_list (X := F.X i)).or sl_tupA).or sl_str
    rw [F.hK i] at h
    exact h
  · obtain ⟨d, e1, hk⟩ := with1_of hw
    have rx := S3.read ((o1.le le2).le le3) e1
    cases d with
    | str z =>
      exact .inr ⟨z, rd_str rx, hk.1, q _ _ _ _ _ (S3.have (.str _)) hk.2⟩
    | lst ds =>
      obtain ⟨p, vs, rfl, hs, r⟩ := rd_lst S3 rx
      exact .inl (.inl ⟨p, vs, rfl, .of hs, fun l hl => q _ _ _ _ _ (S3.alloc1 (o := .lst _) (d := .lst _) hl (cut_rp r)) hk⟩)
    | scr ns =>
      obtain ⟨p, rfl, hs⟩ := rd_scr S3 rx
      exact .inl (.inl ⟨p, _, rfl, hs, fun l hl => q _ _ _ _ _ (S3.alloc1 (o := .lst _) (d := .lst _) hl (cut_rp (RpL.ints ns))) hk⟩)
    | tup ds =>
      obtain ⟨p, vs, rfl, hz, hs, r⟩ := rd_tup S3 rx
      refine .inl (.inr ⟨p, vs, rfl, .inl hs, fun h => ?_, fun h l hl => ?_⟩)
      · have hk : Q' (.fz (.tup (cutD ds lo hi))) ρ3 := hk
        rw [cut_whole (by rw [r.len] at h; exact h)] at hk
        exact q _ _ _ _ _ (S3.have (.tup hz r)) hk
      · obtain ⟨S4, le4⟩ := S3.allocZ (o := .tup (cutV vs lo hi)) hl
        exact q _ _ _ _ _ (S4.have (.tup (.of upd_same) (RpL.le le4 _ _ (cut_rp r)))) hk
    | _ => exact (show False from hk).elim

/-! ### list(range(..)) -/
theorem rng_rp {K : PySem.W.Frag} {Z : Hp} (a b : Int) : RpL K Z (rgV a b) (rangeD a b) := by
  unfold rgV rangeD
  have : ∀ l : List Nat, RpL K Z (l.map fun i => V.int (a + (i : Nat))) (l.map fun (k : Nat) => D.int (a + (k : Int))) := by
    intro l
    induction l with
    | nil => exact .nil
    | cons i l ih => exact .cons (.int _) ih
  exact this _
@[simp] def wLrg1 (w : WR) : WE := fun E ρ Q => w E ρ fun r ρ1 => with1 (look ρ1 r) fun d => match d with
  | .int b => RgOk 0 b ∧ Q (.ow (.lst (rangeD 0 b))) ρ1
  | _ => False
@[simp] def wLrg2 (u w : WR) : WE := fun E ρ Q => u E ρ fun r1 ρ1 => w E ρ1 fun r2 ρ2 => with2 (look ρ2 r1) (look ρ2 r2) fun x y => match x with
  | .int a => (match y with
    | .int b => RgOk a b ∧ Q (.ow (.lst (rangeD a b))) ρ2
    | _ => False)
  | _ => False
theorem re_lrg1 {pr pr2 : Pos} {w : WR} (h : RR F e w) (hm1 : ∀ i, (F.X i).mg "list" = none) (hm2 : ∀ i, (F.X i).mg "range" = none) (hg1 : ∀ i, Gl (F.X i) "list" := by intro _; rfl) (hg2 : ∀ i, Gl (F.X i) "range" := by intro _; rfl)
    (na : ∀ i, starEach [e] (F.X i).env = (false, eval e (F.X i).env) :: starEach [] (F.X i).env := by intro _; rfl) (nb : ∀ i, starEach [.Call (.Name "range" pr) [e] [] pr2] (F.X i).env = (false, eval (.Call (.Name "range" pr) [e] [] pr2) (F.X i).env) :: starEach [] (F.X i).env := by intro _; rfl) : RE F (.Call (.Name "list" p) [.Call (.Name "range" pr) [e] [] pr2] [] pos) (wLrg1 w) := by
  obtain ⟨t, a1, a2⟩ := h
  refine ⟨_, fun i => pe_listRg (F.calm i) (hg1 i) (hm1 i) (prg_1 (hg2 i) (hm2 i) (a1 i) (na i)) (nb i), LE.of fun B σ H ρ Z Q Q' E S X hw q => a2 B σ H ρ Z _ _ E S X hw fun x r H1 ρ1 Z1 S1 le1 o1 hw => ?_⟩
  obtain ⟨d, e1, hk⟩ := with1_of hw
  cases d with
  | int b => exact ⟨b, rd_int (S1.read o1 e1), hk.1, fun l hl => q _ _ _ _ _ (S1.alloc1 (o := .lst _) (d := .lst _) hl (rng_rp 0 b)) hk.2⟩
  | _ => exact (show False from hk).elim
theorem re_lrg2 {f : Expr} {pr pr2 : Pos} {u w : WR} (h : RR F e u) (h' : RR F f w) (hm1 : ∀ i, (F.X i).mg "list" = none) (hm2 : ∀ i, (F.X i).mg "range" = none) (hg1 : ∀ i, Gl (F.X i) "list" := by intro _; rfl) (hg2 : ∀ i, Gl (F.X i) "range" := by intro _; rfl)
    (na : ∀ i, starEach [e, f] (F.X i).env = (false, eval e (F.X i).env) :: starEach [f] (F.X i).env := by intro _; rfl) (na2 : ∀ i, starEach [f] (F.X i).env = (false, eval f (F.X i).env) :: starEach [] (F.X i).env := by intro _; rfl) (np : ∀ i, (backTo pr2 (starEach [f] (F.X i).env)).any (·.1) = false := by intro _; rfl) (nb : ∀ i, starEach [.Call (.Name "range" pr) [e, f] [] pr2] (F.X i).env = (false, eval (.Call (.Name "range" pr) [e, f] [] pr2) (F.X i).env) :: starEach [] (F.X i).env := by intro _; rfl) : RE F (.Call (.Name "list" p) [.Call (.Name "range" pr) [e, f] [] pr2] [] pos) (wLrg2 u w) := by
  obtain ⟨t, a1, a2⟩ := h
  obtain ⟨t', b1, b2⟩ := h'
  refine ⟨_, fun i => pe_listRg (F.calm i) (hg1 i) (hm1 i) (prg_2 (hg2 i) (hm2 i) (a1 i) (b1 i) (na i) (na2 i) (np i)) (nb i), LE.of fun B σ H ρ Z Q Q' E S X hw q => a2 B σ H ρ Z _ _ E S X hw fun x r H1 ρ1 Z1 S1 le1 o1 hw => b2 B σ H1 ρ1 Z1 _ _ E S1 X hw fun y r2 H2 ρ2 Z2 S2 le2 o2 hw => ?_⟩
  obtain ⟨dx, dy, e1, e2, hk⟩ := with2_of hw
  cases dx with
  | int a =>
    cases dy with
    | int b => exact ⟨a, b, rd_int (S2.read (o1.le le2) e1), rd_int (S2.read o2 e2), hk.1, fun l hl => q _ _ _ _ _ (S2.alloc1 (o := .lst _) (d := .lst _) hl (rng_rp a b)) hk.2⟩
    | _ => exact (show False from hk).elim
  | _ => exact (show False from hk).elim

/-! ### methods that only read -/
def MetD (F : Fm) (T id : String) (k : D → KN) : Prop := ∃ r : V → List V → Hp → VK → Prop, (∀ i, MtR (F.X i) id r) ∧ ∀ B σ H ρ Z x dx xs ds Q Q', St1 F.K B σ H ρ Z [] → Rd1 F.K Z H x dx → Paired (Rd1 F.K Z H) xs ds → k dx ds Q' → Rc F B σ ρ Q' Q → r x xs H Q
/-- the receiver's type is seen ahead of the arguments -/
@[simp] def tyD (T : String) (d : D) : Prop := match d with
  | .str _ => T = "str"
  | .lst _ => T = "list"
  | .scr _ => T = "list"
  | .dic _ _ => T = "dict"
  | _ => False
theorem tyD_v {B : Bs} {σ : L2.St} {H : Hp} {ρ : En} {Z : Hp} {x : V} {d : D} (S : St1 F.K B σ H ρ Z []) (rx : Rd1 F.K Z H x d) (h : tyD T d) : tyV F.K T x H := by
  cases d with
  | str z => rw [rd_str rx]; exact h
  | lst ds =>
    obtain ⟨p, vs, rfl, hs, r⟩ := rd_lst S rx
    exact .inl ⟨h, vs, .of hs⟩
  | scr ns =>
    obtain ⟨p, rfl, hs⟩ := rd_scr S rx
    exact .inl ⟨h, _, hs⟩
  | dic ks ds =>
    obtain ⟨p, kvs, rfl, hs, r⟩ := rd_dic S rx
    exact .inr (.inr (.inl ⟨h, .inl ⟨kvs, hs⟩⟩))
  | _ => exact (show False from h).elim
@[simp] def wMt (T : String) (k : D → KN) (o : WR) (as : WRs) : WE := fun E ρ Q => o E ρ fun r ρ1 => with1 (look ρ1 r) fun d0 => tyD T d0 ∧ as E ρ1 fun rs ρ2 => with1 (look ρ2 r) fun x => withN (looks ρ2 rs) fun ds => k x ds fun s => Q s ρ2
theorem re_mt {k : D → KN} {wo : WR} {wa : WRs} {name : Str} {apos cpos : Pos} {o : Expr} (hc : MetD F T id k) (ho : RR F o wo) (ha : RRs F (e :: es) wa) (pa : PlainAttrs T) (slot : Slot T name id) (hty : typeOf (.builtin id) = pure (.type "method_descriptor"))
    (hbase : ∀ i, attributeBase o name (F.X i).env (eval o (F.X i).env) = eval o (F.X i).env := by intro _; rfl)
    (hfew : ∀ i, ((backTo cpos (starEach (e :: es) (F.X i).env)).all (fun x => !x.1) && (backToKw cpos (keywordEach [] (F.X i).env)).all (fun x => x.1.isSome)
      && decide ((e :: es).length + ([] : List Keyword).length + (if ([] : List Keyword).isEmpty then 0 else 1) < 30)) = true := by intro _; rfl)
    (hline : (apos.endLine == cpos.line) = true := by rfl) (hs : ∀ i, starEach (e :: es) (F.X i).env = (false, eval e (F.X i).env) :: starEach es (F.X i).env := by intro _; rfl) (hplain : ∀ i, (backTo cpos (starEach es (F.X i).env)).any (·.1) = false := by intro _; rfl) :
    RE F (.Call (.Attribute o name apos) (e :: es) [] cpos) (wMt T k wo wa) := by
  obtain ⟨r, h1, h2⟩ := hc
  obtain ⟨to, o1, o2⟩ := ho
  obtain ⟨t, a1, a2⟩ := ha
  refine ⟨tBM F.K T r to t, fun i => by rw [← F.hK i]; exact pe_bm pa slot hty (h1 i) (o1 i) (a1 i) (hbase i) (hfew i) hline (hs i) (hplain i), LE.of fun B σ H ρ Z Q Q' E S X hw q => o2 B σ H ρ Z _ _ E S X hw fun x rr H1 ρ1 Z1 S1 le1 ok1 hw => ?_⟩
  obtain ⟨d0, e0, hty', hw⟩ := with1_of hw
  refine ⟨tyD_v S1 (S1.read ok1 e0) hty', a2 B σ H1 ρ1 Z1 _ _ E S1 X hw fun xs rs H2 ρ2 Z2 S2 le2 ok2 hw => ?_⟩
  obtain ⟨dx, e1, hw⟩ := with1_of hw
  obtain ⟨ds, e2, hk⟩ := withN_of hw
  exact h2 B σ H2 ρ2 Z2 x dx xs ds Q _ S2 (S2.read (ok1.le le2) e1) (S2.reads ok2 e2) hk fun v s H' Z' S' hq => q v s H' ρ2 Z' S' hq
/-- the first place of it -/
def firstAt (y : D) : Nat → List D → Option Nat
  | _, [] => none
  | k, z :: zs => if beq z y = true then some k else firstAt y (k + 1) zs
theorem firstAt_of {y : D} : ∀ {ds : List D} {k j : Nat}, firstAt y k ds = some j → ∃ i z, j = k + i ∧ (pys ds)[i]? = some z ∧ PyData.eqv z y.py = true ∧ ∀ (m : Nat) z', m < i → (pys ds)[m]? = some z' → PyData.eqv z' y.py = false
  | [], _, _, h => by cases h
  | d :: ds, k, j, h => by
    unfold firstAt at h
    by_cases hb : beq d y = true
    · rw [if_pos hb] at h
      cases h
      exact ⟨0, d.py, rfl, rfl, hb, fun m z' hm _ => absurd hm (Nat.not_lt_zero m)⟩
    · rw [if_neg hb] at h
      obtain ⟨i, z, rfl, h1, h2, h3⟩ := firstAt_of h
      refine ⟨i + 1, z, by omega, h1, h2, fun m z' hm e => ?_⟩
      cases m with
      | zero =>
        have e : some d.py = some z' := e
        cases e
        simpa using hb
      | succ m => exact h3 m z' (by omega) e
@[simp] def kIndex : D → KN := fun x => k1 fun y Q => match x with
  | .lst ds => bothGood y (.lst ds) (withO (firstAt y 0 ds) fun j => Q (.fz (.int (j : Nat))))
  | _ => False
theorem md_index : MetD F "list" "list.index" kIndex := by
  refine ⟨rIndexD F.K, fun i => by rw [← F.hK i]; exact mt_indexD (un65 (F.un i)), fun B σ H ρ Z x dx xs ds Q Q' S rx rxs hk q => ?_⟩
  obtain ⟨y, rfl, hk⟩ := k1_of hk
  obtain ⟨v, rfl, rv⟩ := pd1 rxs
  cases dx with
  | lst ds =>
    obtain ⟨g1, g2, hk⟩ := (show bothGood _ _ _ from hk)
    obtain ⟨j, ej, hq⟩ := withO_of hk
    obtain ⟨i, z, rfl, h1, h2, h3⟩ := firstAt_of ej
    obtain ⟨p, vs, rfl, hs, r⟩ := rd_lst S rx
    refine ⟨p, v, y.py, pys ds, i, z, rfl, rfl, dp_rd S rx (good_plain g2), dp_rd S rv (good_plain g1), good_shaped g2, good_shaped g1, h1, h2, h3, ?_⟩
    rw [Nat.zero_add] at hq
    exact q _ _ _ _ (S.have (.int _)) hq
  | _ => exact (show False from hk).elim
theorem re_index {wo : WR} {wa : WRs} {apos cpos : Pos} {o : Expr} (ho : RR F o wo) (ha : RRs F [e] wa)
    (hbase : ∀ i, attributeBase o "index" (F.X i).env (eval o (F.X i).env) = eval o (F.X i).env := by intro _; rfl)
    (hfew : ∀ i, ((backTo cpos (starEach [e] (F.X i).env)).all (fun x => !x.1) && (backToKw cpos (keywordEach [] (F.X i).env)).all (fun x => x.1.isSome)
      && decide ([e].length + ([] : List Keyword).length + (if ([] : List Keyword).isEmpty then 0 else 1) < 30)) = true := by intro _; rfl)
    (hline : (apos.endLine == cpos.line) = true := by rfl) (hs : ∀ i, starEach [e] (F.X i).env = (false, eval e (F.X i).env) :: starEach [] (F.X i).env := by intro _; rfl) (hplain : ∀ i, (backTo cpos (starEach [] (F.X i).env)).any (·.1) = false := by intro _; rfl) :
    RE F (.Call (.Attribute o "index" apos) [e] [] cpos) (wMt "list" kIndex wo wa) := re_mt md_index ho ha PySem.F.plainAttrs_list PySem.F.slot_list_index PySem.F.type_list_index hbase hfew hline hs hplain
@[simp] def kJoin : D → KN := fun x => k1 fun y Q => match x with
  | .str a => withO (seqD y) fun ds => withO (strsOf ds) fun ys => (ys.map (·.length)).sum + ys.length * a.length ≤ 16777216 ∧ Q (.fz (.str (Txt.join a ys)))
  | _ => False
theorem md_join : MetD F "str" "str.join" kJoin := by
  refine ⟨fun x xs H Q => ∃ a p, ∃ ys : List Str, x = .str a ∧ xs = [.ref p] ∧ (SqL F.K H p (ys.map V.str) ∨ SqT F.K H p (ys.map V.str)) ∧ (ys.map (·.length)).sum + ys.length * a.length ≤ 16777216 ∧ Q (.str (Txt.join a ys)) H, fun i => by rw [← F.hK i]; exact mt_join, fun B σ H ρ Z x dx xs ds Q Q' S rx rxs hk q => ?_⟩
  obtain ⟨y, rfl, hk⟩ := k1_of hk
  obtain ⟨v, rfl, rv⟩ := pd1 rxs
  cases dx with
  | str a =>
    obtain ⟨ds, e1, hk⟩ := withO_of hk
    obtain ⟨ys, e2, hz, hq⟩ := withO_of hk
    obtain ⟨p, vs, rfl, hs, r⟩ := rd_seq S rv e1
    rw [strsOf_eq e2] at r
    rw [RpL.of_strs r] at hs
    exact ⟨a, p, ys, rd_str rx, rfl, hs, hz, q _ _ _ _ (S.have (.str _)) hq⟩
  | _ => exact (show False from hk).elim
theorem re_join {wo : WR} {wa : WRs} {apos cpos : Pos} {o : Expr} (ho : RR F o wo) (ha : RRs F [e] wa)
    (hbase : ∀ i, attributeBase o "join" (F.X i).env (eval o (F.X i).env) = eval o (F.X i).env := by intro _; rfl)
    (hfew : ∀ i, ((backTo cpos (starEach [e] (F.X i).env)).all (fun x => !x.1) && (backToKw cpos (keywordEach [] (F.X i).env)).all (fun x => x.1.isSome)
      && decide ([e].length + ([] : List Keyword).length + (if ([] : List Keyword).isEmpty then 0 else 1) < 30)) = true := by intro _; rfl)
    (hline : (apos.endLine == cpos.line) = true := by rfl) (hs : ∀ i, starEach [e] (F.X i).env = (false, eval e (F.X i).env) :: starEach [] (F.X i).env := by intro _; rfl) (hplain : ∀ i, (backTo cpos (starEach [] (F.X i).env)).any (·.1) = false := by intro _; rfl) :
    RE F (.Call (.Attribute o "join" apos) [e] [] cpos) (wMt "str" kJoin wo wa) := re_mt md_join ho ha PySem.F.plainAttrs_str PySem.F.slot_str_join PySem.F.type_str_join hbase hfew hline hs hplain
@[simp] def kSplit : D → KN := fun x => k1 fun y Q => match x with
  | .str a => (match y with
    | .str b => ((b.length == 0) = false ∧ a.length + 2 ≤ sizeLine) ∧ Q (.ow (.lst ((Txt.split a b).map D.str)))
    | _ => False)
  | _ => False
theorem md_split : MetD F "str" "str.split" kSplit := by
  refine ⟨_, fun i => mt_split, fun B σ H ρ Z x dx xs ds Q Q' S rx rxs hk q => ?_⟩
  obtain ⟨y, rfl, hk⟩ := k1_of hk
  obtain ⟨v, rfl, rv⟩ := pd1 rxs
  cases dx with
  | str a =>
    cases y with
    | str b =>
      obtain ⟨⟨h1, h2⟩, hq⟩ := (show _ ∧ _ from hk)
      exact ⟨a, b, rd_str rx, by rw [rd_str rv], h1, h2, fun l hl => q _ _ _ _ (S.alloc1 (o := .lst _) (d := .lst _) hl (RpL.strs _)) hq⟩
    | _ => exact (show False from hk).elim
  | _ => exact (show False from hk).elim
theorem re_split {wo : WR} {wa : WRs} {apos cpos : Pos} {o : Expr} (ho : RR F o wo) (ha : RRs F [e] wa)
    (hbase : ∀ i, attributeBase o "split" (F.X i).env (eval o (F.X i).env) = eval o (F.X i).env := by intro _; rfl)
    (hfew : ∀ i, ((backTo cpos (starEach [e] (F.X i).env)).all (fun x => !x.1) && (backToKw cpos (keywordEach [] (F.X i).env)).all (fun x => x.1.isSome)
      && decide ([e].length + ([] : List Keyword).length + (if ([] : List Keyword).isEmpty then 0 else 1) < 30)) = true := by intro _; rfl)
    (hline : (apos.endLine == cpos.line) = true := by rfl) (hs : ∀ i, starEach [e] (F.X i).env = (false, eval e (F.X i).env) :: starEach [] (F.X i).env := by intro _; rfl) (hplain : ∀ i, (backTo cpos (starEach [] (F.X i).env)).any (·.1) = false := by intro _; rfl) :
    RE F (.Call (.Attribute o "split" apos) [e] [] cpos) (wMt "str" kSplit wo wa) := re_mt md_split ho ha PySem.F.plainAttrs_str PySem.F.slot_str_split PySem.F.type_str_split hbase hfew hline hs hplain
end
end Pu

set_option Elab.async false
set_option linter.all false
set_option maxRecDepth 100000
set_option maxHeartbeats 1000000
/-! Pu, enumerate over a tuple, at the level of HandS. -/
namespace Pu
open PySem L2 PySem.Spec PyProof.Rows

theorem meets_enumT {v : Value} {o : Obj} {H : Heap → Prop} (B : Begins v o H) :
    Meets (Builtin.«enumerate.__new__» ⟨[.type "enumerate", v], []⟩) (fun _ R s => H s.heap ∧
      R (.ok (.ret (.ref (s.heap.push o).objs.size))) { s with heap := (s.heap.push o).push { cls := .type "enumerate", data := .fields #[.none, .bool false, .ref s.heap.objs.size, rawInt 0, .none, .none] } }) :=
  .of_wp fun prog w A R s h => by
    obtain ⟨hp, g, d, tk, os⟩ := s
    obtain ⟨h1, h⟩ := h
    have hsub := sub_enumerate
    have q1 : ∀ {A' : Around} {E : Value → Shared → Prop} {Q : Value → Shared → Prop}, Q (.ref hp.objs.size) ⟨hp.push o, g, d, tk, os⟩ → wpAny (model prog w) A' (pyIter v) Q E ⟨hp, g, d, tk, os⟩ :=
      fun q => B.iter prog w _ _ ⟨hp, g, d, tk, os⟩ _ h1 q
    wp_walk using q1
    refine wpAny_stack_any fun st => wpAny_pure ?_
    split
    · rename_i c _ _ _ _ _
      cases (c == Value.type "enumerate")
      · wp_walk using q1
        exact ⟨_, rfl, h⟩
      · wp_walk using q1
        exact ⟨_, rfl, h⟩
    · wp_walk using q1
      exact ⟨_, rfl, h⟩
section
variable {prog : Program} {w : World} {A : Around} {E : Value → Shared → Prop} {s : Shared}
theorem call_enumT {v : Value} {o : Obj} {H : Heap → Prop} {Q : Value → Shared → Prop} (B : Begins v o H) (h1 : H s.heap)
    (h : ∀ h', IsEnum h' (s.heap.objs.size + 1) s.heap.objs.size 0 .none → h'.get? s.heap.objs.size = some o → h'.objs.size = s.heap.objs.size + 2 →
      (∀ b ob, s.heap.get? b = some ob → h'.get? b = some ob) → Q (.ref (s.heap.objs.size + 1)) { s with heap := h' }) :
    wpAny (model prog w) A (call (.type "enumerate") [v]) Q E s := by
  refine callType_new F.called_enumerate (by decide) (F.typeCall_enumerate_1 _) (F.newCall_enumerate_1 _) (fun obj => F.args_object_init_2 obj _) F.entry_enumerate_new
    (meets_enumT B) ⟨h1, ?_⟩
  have hz : (s.heap.push o).objs.size = s.heap.objs.size + 1 := Heap.size_push ..
  show _ ∧ _
  rw [hz]
  have he : IsEnum ((s.heap.push o).push { cls := .type "enumerate", data := .fields #[.none, .bool false, .ref s.heap.objs.size, rawInt 0, .none, .none] }) (s.heap.objs.size + 1) s.heap.objs.size 0 .none := by
    have := Heap.get?_push_size (s.heap.push o) (o := { cls := .type "enumerate", data := .fields #[.none, .bool false, .ref s.heap.objs.size, rawInt 0, .none, .none] }) rfl
    rw [hz] at this; exact this
  exact ⟨⟨_, he, rfl⟩, h _ he (Heap.get?_push_of_some _ (Heap.get?_push_size _ B.free)) (by rw [Heap.size_push, hz]) fun b ob x => Heap.get?_push_of_some _ (Heap.get?_push_of_some _ x)⟩
end
/-- the tuple at a, numbered -/
def IteT (K : PySem.W.Frag) (a : Addr) : It :=
  ⟨fun i H => ∃ (xs : List V) (x : V), SqT K H a xs ∧ xs[i]? = some x, fun i H v H' => ∃ T x, v = .ref T ∧ H T = none ∧ H' = upd H T (.tup [.int (i : Nat), x]) ∧ ∀ xs, SqT K H a xs → xs[i]? = some x, fun i H => ∃ xs : List V, SqT K H a xs ∧ xs.length = i⟩
theorem turn_enumT {P : Program} {w : World} {K : PySem.W.Frag} {elts : List Expr} {kk : Nat} {tpos : Pos} (a e it : Addr) :
    Turn P w K (.Tuple elts kk tpos) (IteT K a) [e, it] e (fun i h => (∃ old, IsEnum h e it ((i : Nat) : Int) old) ∧ h.IsTupleIter it a i ∧ e ≠ it) where
  mem := by simp
  obj := fun i h st b hb => by
    obtain ⟨⟨old, he⟩, ⟨o, ho, hc, hd⟩, _⟩ := st
    have e' : b = e ∨ b = it := by simpa using hb
    rcases e' with z | z
    · rw [z]; exact ⟨_, he, fun v q => nomatch q⟩
    · rw [z]; exact ⟨o, ho, fun v q => by rw [hd] at q; cases q⟩
  keep := fun i h h' st k => let ⟨⟨old, he⟩, hi, hne⟩ := st; ⟨⟨old, k e (by simp) _ he⟩, hi.at fun o q => k it (by simp) o q, hne⟩
  item := by
    intro X hP hw hK hc i pins s σ H E I hf st hg
    subst hP hw hK
    obtain ⟨⟨old, he⟩, hit, hne⟩ := st
    obtain ⟨xs, x, hq, hx⟩ := hg
    obtain ⟨its, rv, p, hz⟩ := I.tuple hq
    obtain ⟨u, hu, ru⟩ := rv.get hx
    have hel : e < s.heap.objs.size := Heap.lt_size he
    have hil : it < s.heap.objs.size := by obtain ⟨_, q, _⟩ := hit; exact Heap.lt_size q
    have hit0 := id hit
    obtain ⟨oi, hio, hic, _⟩ := hit0
    have p0 := id p
    obtain ⟨ot, hto, htc, _⟩ := p0
    have nti : a ≠ it := fun q => by
      subst q
      rw [hto] at hio
      cases hio
      rw [htc] at hic
      exact absurd hic (by decide)
    have nte : e ≠ a := fun q => by
      subst q
      have he2 : s.heap.get? e = _ := he
      rw [hto] at he2
      cases he2
      exact absurd (show Value.type "enumerate" = Value.type "tuple" from htc) (by decide)
    refine wpAny_pyNext_enum_itemD (Draws.tuple (A := X.A.in1) (I.ok.hd hc) it a nti its.toArray) he ⟨hit, p⟩ (by
      have := (List.getElem?_eq_some_iff.mp hu).1
      simpa using this) hne (by simp [hne, nte]) fun y h' tk hy ho hit' hT hsz hk => ?_
    have hy : its.toArray[i]? = some y := hy
    have hyu : y = u := by
      have : its[i]? = some y := by simpa using hy
      rw [hu] at this
      exact (Option.some.inj this).symm
    subst hyu
    refine ⟨_, rfl, wpAny_letOwnedTupleGo_enum (s := { s with heap := h', toks := tk + 1 }) ho fun h'' he' sb => ?_⟩
    have hT2 : h''.get? s.heap.objs.size = some { cls := .type "tuple", data := .seq #[.int i tk, y] } := (sb.2 _ (Nat.ne_of_gt hel)).trans hT
    have new : ObjOk X.prog X.w (upd H s.heap.objs.size (.tup [.int (i : Nat), x])) h'' s.heap.objs.size (.tup [.int (i : Nat), x]) :=
      ⟨by show 2 ≤ sizeLine; decide, [.int i tk, y], .cons ⟨_, rfl⟩ (.cons ru .nil), ⟨_, hT2, rfl, _, rfl⟩⟩
    have I1 : Inv X pins σ (upd H s.heap.objs.size (.tup [.int (i : Nat), x])) { s with heap := h'', toks := tk + 1 } :=
      I.turnedNew (ch := [e, it]) (fun b ob hb q => (sb.2 b (fun z => hb (by simp [z]))).trans (hk b ob (fun z => hb (by simp [z])) (fun z => hb (by simp [z])) q)) hf (Nat.le_refl _) new
    refine ⟨.ref s.heap.objs.size, _, I1, rfl, ⟨_, x, rfl, I.hok.fresh (Nat.le_refl _), rfl, fun ys hy => by rw [I.tuple_inj hy hq]; exact hx⟩, ⟨⟨y, ?_⟩, hit'.1.at fun o q => (sb.2 it (Ne.symm hne)).trans q, hne⟩, fun b hb => ?_⟩
    · have e1 : ((i + 1 : Nat) : Int) = (i : Int) + 1 := by omega
      rw [e1]; exact he'
    · have hb' : b < s.heap.objs.size := by
        have e' : b = e ∨ b = it := by simpa using hb
        rcases e' with z | z
        · rw [z]; exact hel
        · rw [z]; exact hil
      rw [upd_ne (Nat.ne_of_lt hb')]
      exact (hf b hb).1
  done := by
    intro X hP hw hK hc i pins s σ H E I hf st hg
    subst hP hw hK
    obtain ⟨⟨old, he⟩, hit, hne⟩ := st
    obtain ⟨xs, hq, hx⟩ := hg
    obtain ⟨its, rv, p, hz⟩ := I.tuple hq
    obtain ⟨f0, f1, f2, f3, f4, f5⟩ := hf it (by simp)
    have hl := rv.length
    have hit0 := id hit
    obtain ⟨oi, hio, hic, _⟩ := hit0
    have p0 := id p
    obtain ⟨ot, hto, htc, _⟩ := p0
    have nti : a ≠ it := fun q => by
      subst q
      rw [hto] at hio
      cases hio
      rw [htc] at hic
      exact absurd hic (by decide)
    refine wpAny_pyNext_enum_endD (Draws.tuple (A := X.A.in1) (I.ok.hd hc) it a nti its.toArray) he ⟨?_, p⟩ fun h' eb => ⟨rfl, I.turned (t' := s.toks) (fun b o hb q => eb b o hb q) f0 f1 f3 f4 f5⟩
    have : its.toArray.size = i := by simp; omega
    rw [this]
    exact hit
  self := fun A i s Q E st h => let ⟨⟨_, he⟩, _⟩ := st; wpAny_pyIter_enum he h
/-- enumerate of a list or a tuple -/
def iEnumA (K : PySem.W.Frag) (ta : TA) : TI := fun σ H R => ta σ H fun vs H1 => ∃ a xs, vs = [.ref a] ∧ ((SqL K H1 a xs ∧ R (Ite K a) H1) ∨ (SqT K H1 a xs ∧ R (IteT K a) H1))
theorem pi_enumA {X : Cx} {e : Expr} {ta : TA} {p pos tpos : Pos} {elts : List Expr} {kk : Nat} (hg : Gl X "enumerate") (hm : X.mg "enumerate" = none) (ha : PA X [e] ta) (hs : starEach [e] X.env = [(false, eval e X.env)] := by rfl) :
    PI X (.Tuple elts kk tpos) (.Call (.Name "enumerate" p) [e] [] pos) (iEnumA X.K ta) := by
  refine ⟨fun pins s σ H R I h => ?_⟩
  refine Call_ (ld_blt I hg hm boot_enumerate (PyProof.Rows.callWith_type1 (thn (ha.run pos pins s σ H _ I h) fun us s1 ⟨vs, H1, I1, r1, q1⟩ => ?_) hs rfl))
  obtain ⟨a, xs, ex, hq⟩ := q1
  subst ex
  cases r1 with
  | cons r rr =>
    cases rr
    cases r
    have fp : ∀ b ∈ [s1.heap.objs.size + 1, s1.heap.objs.size], FpOk X pins H1 b := fun b hb => by
      have e' : b = s1.heap.objs.size + 1 ∨ b = s1.heap.objs.size := by simpa using hb
      have hle : s1.heap.objs.size ≤ b := by
        rcases e' with z | z
        · rw [z]; exact Nat.le_add_right _ _
        · rw [z]; exact Nat.le_refl _
      exact I1.fpOk hle (I1.hok.fresh hle)
    rcases hq with ⟨hq, q⟩ | ⟨hq, q⟩
    · obtain ⟨its, rv, p', hz⟩ := I1.list hq
      refine call_enumerate_list p'.isList fun h' he hit hsz hk => wpAny_pyIter_enum he ?_
      have I2 : Inv X pins σ H1 { s1 with heap := h' } := I1.kept (t' := s1.toks) hk
      exact ⟨s1.heap.objs.size + 1, [s1.heap.objs.size + 1, s1.heap.objs.size], _, _, H1, rfl, I2, turn_enum a (s1.heap.objs.size + 1) s1.heap.objs.size, ⟨⟨.none, he⟩, hit, Nat.succ_ne_self _⟩, fp, q⟩
    · obtain ⟨its, rv, p', hz⟩ := I1.tuple hq
      refine call_enumT (begins_tuple a its.toArray) p' fun h' he hit hsz hk => wpAny_pyIter_enum he ?_
      have I2 : Inv X pins σ H1 { s1 with heap := h' } := I1.kept (t' := s1.toks) hk
      exact ⟨s1.heap.objs.size + 1, [s1.heap.objs.size + 1, s1.heap.objs.size], _, _, H1, rfl, I2, turn_enumT a (s1.heap.objs.size + 1) s1.heap.objs.size, ⟨⟨.none, he⟩, ⟨_, hit, rfl, rfl⟩, Nat.succ_ne_self _⟩, fp, q⟩
end Pu

set_option Elab.async false
set_option linter.all false
set_option maxRecDepth 100000
/-! Pu, what changes lists and dicts; targets; dict displays; what loops walk. -/
namespace Pu
open PySem L2 PySem.Spec PyProof.Rows

section
variable {F : Fm} {e a b : Expr} {es : List Expr} {pos p : Pos} {x : Str} {id T : String}

/-! ### methods that change a list of our own -/
theorem lent_is {s : Option Sl} {d : D} (h : lent s = some d) : s = some (.ow d) ∨ ∃ k, s = some (.io k d) := by
  match s, h with
  | some (.ow d'), h => cases h; exact .inl rfl
  | some (.io k d'), h => cases h; exact .inr ⟨k, rfl⟩
theorem lent_write {B : Bs} {σ : L2.St} {H : Hp} {ρ : En} {Z : Hp} {i : Nat} {d : D} (S : St1 F.K B σ H ρ Z []) (e : lent ρ[i]? = some d) :
    ∃ p o, σ[i]? = some (some (.ref p)) ∧ H p = some o ∧ RpO F.K Z o d ∧ ∀ o' d', RpO F.K Z o' d' → St1 F.K B σ (upd H p o') (ρ.set i (lentBack ρ[i]? d')) Z [] := by
  rcases lent_is e with h | ⟨k, h⟩
  · obtain ⟨p, o, h1, h2, h3, _⟩ := S.write (d' := d) h (.inl ⟨rfl, rfl⟩)
    refine ⟨p, o, h1, h2, h3, fun o' d' r => ?_⟩
    obtain ⟨p2, o2, g1, g2, g3, put⟩ := S.write (d' := d') h (.inl ⟨rfl, rfl⟩)
    rw [h1] at g1
    cases g1
    rw [h]
    exact put o' r
  · obtain ⟨p, o, h1, h2, h3, _⟩ := S.write (d' := d) h (.inr ⟨k, rfl, rfl⟩)
    refine ⟨p, o, h1, h2, h3, fun o' d' r => ?_⟩
    obtain ⟨p2, o2, g1, g2, g3, put⟩ := S.write (d' := d') h (.inr ⟨k, rfl, rfl⟩)
    rw [h1] at g1
    cases g1
    rw [h]
    exact put o' r
abbrev KM := D → List D → (D → D → Prop) → Prop
def MutD (F : Fm) (id : String) (k : KM) : Prop := ∃ r : V → List V → Hp → VK → Prop, (∀ i, MtR (F.X i) id r) ∧ ∀ (Z H : Hp) (p : Addr) (o : HO) (d : D) (us : List V) (ds : List D) (Q : VK) (Q' : D → D → Prop), Le Z H → H p = some o → RpO F.K Z o d → RpL F.K Z us ds → k d ds Q' →
  (∀ v e o' d', RpO F.K Z o' d' → Rp F.K Z v e → Q' e d' → Q v (upd H p o')) → r (.ref p) us H Q
@[simp] def wMut (T : String) (k : KM) (i : Nat) (as : WVs) : WE := fun E ρ Q => with1 (lent ρ[i]?) fun d0 => tyD T d0 ∧ as E ρ fun ds ρ1 => with1 (lent ρ1[i]?) fun d => k d ds fun e d' => Q (.fz e) (ρ1.set i (lentBack ρ1[i]? d'))
theorem tyD_own {Z H : Hp} {p : Addr} {o : HO} {d : D} (ha : H p = some o) (r : RpO F.K Z o d) (h : tyD T d) : tyV F.K T (.ref p) H := by
  cases d with
  | lst ds =>
    cases o with
    | lst vs => exact .inl ⟨h, vs, .of ha⟩
    | _ => exact (show False from r).elim
  | dic ks ds =>
    cases o with
    | dK kvs => exact .inr (.inr (.inl ⟨h, .inl ⟨kvs, ha⟩⟩))
    | _ => exact (show False from r).elim
  | str _ => cases o <;> exact r.elim
  | scr _ => cases o <;> exact r.elim
  | _ => exact (show False from h).elim
theorem mut_ok {i : Nat} {r : V → List V → Hp → VK → Prop} {k : KM} {t : TA} {wa : WVs}
    (hr : ∀ (Z H : Hp) (p : Addr) (o : HO) (d : D) (us : List V) (ds : List D) (Q : VK) (Q' : D → D → Prop), Le Z H → H p = some o → RpO F.K Z o d → RpL F.K Z us ds → k d ds Q' → (∀ v e o' d', RpO F.K Z o' d' → Rp F.K Z v e → Q' e d' → Q v (upd H p o')) → r (.ref p) us H Q)
    (ha : LVs F t wa) : LE F (tBM F.K T r (tVar i) t) (wMut T k i wa) := by
  refine LE.of fun B σ H ρ Z Q Q' E S X hw q => ?_
  obtain ⟨d0, e0, ty, hw⟩ := with1_of hw
  obtain ⟨p0, o0, h1, h2, h3, _⟩ := lent_write S e0
  refine ⟨.ref p0, h1, tyD_own h2 h3 ty, ha B σ H ρ Z _ _ E S X hw fun us ds H1 ρ1 Z1 S1 le1 rl hw => ?_⟩
  obtain ⟨d, e1, hk⟩ := with1_of hw
  obtain ⟨p, o, g1, g2, g3, put⟩ := lent_write S1 e1
  rw [h1] at g1
  cases g1
  exact hr Z1 H1 p0 o d us ds Q _ S1.sub g2 g3 rl hk fun v e o' d' ro rv hq => q v _ _ _ _ ((put o' d' ro).have rv) hq
theorem re_mut {k : KM} {wa : WVs} {name : Str} {apos cpos npos : Pos} (i : Nat) (hc : MutD F id k) (ha : RVs F (e :: es) wa) (pa : PlainAttrs T) (slot : Slot T name id) (hty : typeOf (.builtin id) = pure (.type "method_descriptor"))
    (hN : ∀ j, (F.X j).N[i]? = some x := by intro _; rfl) (hv : ∀ j, Vis (F.X j).env.scope x := by intro _; first | exact Or.inl rfl | exact Or.inr (Or.inl rfl) | exact Or.inr (Or.inr rfl)) (hd : (x == ("__debug__" : Str)) = false := by decide) (hcd : (x == ("__classdict__" : Str)) = false := by decide)
    (hbase : ∀ j, attributeBase (.Name x npos) name (F.X j).env (eval (.Name x npos) (F.X j).env) = eval (.Name x npos) (F.X j).env := by intro _; rfl)
    (hfew : ∀ i, ((backTo cpos (starEach (e :: es) (F.X i).env)).all (fun x => !x.1) && (backToKw cpos (keywordEach [] (F.X i).env)).all (fun x => x.1.isSome)
      && decide ((e :: es).length + ([] : List Keyword).length + (if ([] : List Keyword).isEmpty then 0 else 1) < 30)) = true := by intro _; rfl)
    (hline : (apos.endLine == cpos.line) = true := by rfl) (hs : ∀ i, starEach (e :: es) (F.X i).env = (false, eval e (F.X i).env) :: starEach es (F.X i).env := by intro _; rfl) (hplain : ∀ i, (backTo cpos (starEach es (F.X i).env)).any (·.1) = false := by intro _; rfl) :
    RE F (.Call (.Attribute (.Name x npos) name apos) (e :: es) [] cpos) (wMut T k i wa) := by
  obtain ⟨r, h1, h2⟩ := hc
  obtain ⟨t, a1, a2⟩ := ha
  exact ⟨tBM F.K T r (tVar i) t, fun j => by rw [← F.hK j]; exact pe_bm pa slot hty (h1 j) (pe_var (hN j) (hv j) hd hcd) (a1 j) (hbase j) (hfew j) hline (hs j) (hplain j), mut_ok h2 a2⟩
@[simp] def wMut0 (T : String) (k : KM) (i : Nat) : WE := fun E ρ Q => with1 (lent ρ[i]?) fun d => tyD T d ∧ k d [] fun e d' => Q (.fz e) (ρ.set i (lentBack ρ[i]? d'))
theorem re_mut0 {k : KM} {name : Str} {apos cpos npos : Pos} (i : Nat) (hc : MutD F id k) (pa : PlainAttrs T) (slot : Slot T name id) (hty : typeOf (.builtin id) = pure (.type "method_descriptor"))
    (hN : ∀ j, (F.X j).N[i]? = some x := by intro _; rfl) (hv : ∀ j, Vis (F.X j).env.scope x := by intro _; first | exact Or.inl rfl | exact Or.inr (Or.inl rfl) | exact Or.inr (Or.inr rfl)) (hd : (x == ("__debug__" : Str)) = false := by decide) (hcd : (x == ("__classdict__" : Str)) = false := by decide)
    (hbase : ∀ j, attributeBase (.Name x npos) name (F.X j).env (eval (.Name x npos) (F.X j).env) = eval (.Name x npos) (F.X j).env := by intro _; rfl)
    (hline : (apos.endLine == cpos.line) = true := by rfl) : RE F (.Call (.Attribute (.Name x npos) name apos) [] [] cpos) (wMut0 T k i) := by
  obtain ⟨r, h1, h2⟩ := hc
  refine ⟨tBM0 F.K T r (tVar i), fun j => by rw [← F.hK j]; exact pe_bm0 pa slot hty (h1 j) (pe_var (hN j) (hv j) hd hcd) (hbase j) hline, LE.of fun B σ H ρ Z Q Q' E S X hw q => ?_⟩
  obtain ⟨d, e0, ty, hk⟩ := with1_of hw
  obtain ⟨p, o, g1, g2, g3, put⟩ := lent_write S e0
  exact ⟨.ref p, g1, tyD_own g2 g3 ty, h2 Z H p o d [] [] Q _ S.sub g2 g3 .nil hk fun v e o' d' ro rv hq => q v _ _ _ _ ((put o' d' ro).have rv) hq⟩
theorem rpl1 {K : PySem.W.Frag} {Z : Hp} {us : List V} {d : D} (h : RpL K Z us [d]) : ∃ u, us = [u] ∧ Rp K Z u d := by
  cases h with
  | cons r t => cases t; exact ⟨_, rfl, r⟩
@[simp] def kAppend : KM := fun d ds Q => match d with
  | .lst xs => (match ds with
    | [] => False
    | y :: r => match r with
      | [] => xs.length < sizeLine ∧ Q .non (.lst (xs ++ [y]))
      | _ :: _ => False)
  | _ => False
theorem mu_append : MutD F "list.append" kAppend := ⟨rAppend, fun _ => mt_append, fun Z H p o d us ds Q Q' k ha ro rl hk q => by
  match d, ds, hk with
  | .lst xs, [y], hk =>
    obtain ⟨hz, hq⟩ := (show _ ∧ _ from hk)
    cases o with
    | lst vs =>
      have ro : RpL F.K Z vs xs := ro
      obtain ⟨u, rfl, ru⟩ := rpl1 rl
      exact ⟨p, vs, u, rfl, rfl, ha, by rw [ro.len]; exact hz, q .non .non (.lst _) (.lst _) (ro.snoc ru) .non hq⟩
    | _ => exact (show False from ro).elim⟩
theorem re_append {wa : WVs} {apos cpos npos : Pos} (i : Nat) (ha : RVs F [e] wa)
    (hN : ∀ j, (F.X j).N[i]? = some x := by intro _; rfl) (hv : ∀ j, Vis (F.X j).env.scope x := by intro _; first | exact Or.inl rfl | exact Or.inr (Or.inl rfl) | exact Or.inr (Or.inr rfl)) (hd : (x == ("__debug__" : Str)) = false := by decide) (hcd : (x == ("__classdict__" : Str)) = false := by decide)
    (hbase : ∀ j, attributeBase (.Name x npos) "append" (F.X j).env (eval (.Name x npos) (F.X j).env) = eval (.Name x npos) (F.X j).env := by intro _; rfl)
    (hfew : ∀ i, ((backTo cpos (starEach [e] (F.X i).env)).all (fun x => !x.1) && (backToKw cpos (keywordEach [] (F.X i).env)).all (fun x => x.1.isSome)
      && decide ([e].length + ([] : List Keyword).length + (if ([] : List Keyword).isEmpty then 0 else 1) < 30)) = true := by intro _; rfl)
    (hline : (apos.endLine == cpos.line) = true := by rfl) (hs : ∀ i, starEach [e] (F.X i).env = (false, eval e (F.X i).env) :: starEach [] (F.X i).env := by intro _; rfl) (hplain : ∀ i, (backTo cpos (starEach [] (F.X i).env)).any (·.1) = false := by intro _; rfl) :
    RE F (.Call (.Attribute (.Name x npos) "append" apos) [e] [] cpos) (wMut "list" kAppend i wa) := re_mut i mu_append ha PySem.F.plainAttrs_list PySem.F.slot_list_append PySem.F.type_list_append hN hv hd hcd hbase hfew hline hs hplain
@[simp] def kExtend : KM := fun d ds Q => match d with
  | .lst xs => (match ds with
    | [] => False
    | y :: r => match r with
      | [] => (match y with
        | .lst zs => xs.length + zs.length ≤ sizeLine ∧ Q .non (.lst (xs ++ zs))
        | _ => False)
      | _ :: _ => False)
  | _ => False
theorem mu_extend : MutD F "list.extend" kExtend := ⟨rExtend, fun _ => mt_extend, fun Z H p o d us ds Q Q' k ha ro rl hk q => by
  match d, ds, hk with
  | .lst xs, [y], hk =>
    cases y with
    | lst zs =>
      obtain ⟨hz, hq⟩ := (show _ ∧ _ from hk)
      cases o with
      | lst vs =>
        have ro : RpL F.K Z vs xs := ro
        obtain ⟨u, rfl, ru⟩ := rpl1 rl
        cases ru with
        | lst hb rz => exact ⟨p, _, vs, _, rfl, rfl, ha, k _ _ hb, by rw [ro.len, rz.len]; exact hz, q .non .non (.lst _) (.lst _) (ro.app rz) .non hq⟩
      | _ => exact (show False from ro).elim
    | _ => exact (show False from hk).elim⟩
theorem re_extend {wa : WVs} {apos cpos npos : Pos} (i : Nat) (ha : RVs F [e] wa)
    (hN : ∀ j, (F.X j).N[i]? = some x := by intro _; rfl) (hv : ∀ j, Vis (F.X j).env.scope x := by intro _; first | exact Or.inl rfl | exact Or.inr (Or.inl rfl) | exact Or.inr (Or.inr rfl)) (hd : (x == ("__debug__" : Str)) = false := by decide) (hcd : (x == ("__classdict__" : Str)) = false := by decide)
    (hbase : ∀ j, attributeBase (.Name x npos) "extend" (F.X j).env (eval (.Name x npos) (F.X j).env) = eval (.Name x npos) (F.X j).env := by intro _; rfl)
    (hfew : ∀ i, ((backTo cpos (starEach [e] (F.X i).env)).all (fun x => !x.1) && (backToKw cpos (keywordEach [] (F.X i).env)).all (fun x => x.1.isSome)
      && decide ([e].length + ([] : List Keyword).length + (if ([] : List Keyword).isEmpty then 0 else 1) < 30)) = true := by intro _; rfl)
    (hline : (apos.endLine == cpos.line) = true := by rfl) (hs : ∀ i, starEach [e] (F.X i).env = (false, eval e (F.X i).env) :: starEach [] (F.X i).env := by intro _; rfl) (hplain : ∀ i, (backTo cpos (starEach [] (F.X i).env)).any (·.1) = false := by intro _; rfl) :
    RE F (.Call (.Attribute (.Name x npos) "extend" apos) [e] [] cpos) (wMut "list" kExtend i wa) := re_mut i mu_extend ha PySem.F.plainAttrs_list PySem.F.slot_list_extend PySem.F.type_list_extend hN hv hd hcd hbase hfew hline hs hplain
theorem RpL.dl {K : PySem.W.Frag} {Z : Hp} {vs : List V} {ds : List D} (r : RpL K Z vs ds) : RpL K Z vs.dropLast ds.dropLast := by
  rw [List.dropLast_eq_take, List.dropLast_eq_take, r.len]
  exact r.take _
@[simp] def kPop : KM := fun d ds Q => match d with
  | .lst xs => (match ds with
    | [] => withO xs[xs.length - 1]? fun y => Q y (.lst xs.dropLast)
    | _ :: _ => False)
  | _ => False
theorem mu_pop : MutD F "list.pop" kPop := ⟨rPop, fun _ => mt_pop, fun Z H p o d us ds Q Q' k ha ro rl hk q => by
  match d, ds, hk with
  | .lst xs, [], hk =>
    obtain ⟨y, e1, hq⟩ := withO_of hk
    cases o with
    | lst vs =>
      have ro : RpL F.K Z vs xs := ro
      cases rl
      obtain ⟨v, e2, rv⟩ := ro.get e1
      exact ⟨p, vs, v, rfl, rfl, ha, by rw [ro.len]; exact e2, q v y (.lst _) (.lst _) ro.dl rv hq⟩
    | _ => exact (show False from ro).elim⟩
theorem re_pop {apos cpos npos : Pos} (i : Nat)
    (hN : ∀ j, (F.X j).N[i]? = some x := by intro _; rfl) (hv : ∀ j, Vis (F.X j).env.scope x := by intro _; first | exact Or.inl rfl | exact Or.inr (Or.inl rfl) | exact Or.inr (Or.inr rfl)) (hd : (x == ("__debug__" : Str)) = false := by decide) (hcd : (x == ("__classdict__" : Str)) = false := by decide)
    (hbase : ∀ j, attributeBase (.Name x npos) "pop" (F.X j).env (eval (.Name x npos) (F.X j).env) = eval (.Name x npos) (F.X j).env := by intro _; rfl)
    (hline : (apos.endLine == cpos.line) = true := by rfl) : RE F (.Call (.Attribute (.Name x npos) "pop" apos) [] [] cpos) (wMut0 "list" kPop i) := re_mut0 i mu_pop PySem.F.plainAttrs_list PySem.F.slot_list_pop PySem.F.type_list_pop hN hv hd hcd hbase hline
theorem RpL.er {K : PySem.W.Frag} {Z : Hp} : ∀ {vs : List V} {ds : List D} (r : RpL K Z vs ds) (n : Nat), RpL K Z (vs.eraseIdx n) (ds.eraseIdx n)
  | _, _, .nil, _ => .nil
  | _, _, .cons _ t, 0 => t
  | _, _, .cons h t, n + 1 => .cons h (RpL.er t n)
@[simp] def kPopAt : KM := fun d ds Q => match d with
  | .lst xs => (match ds with
    | [] => False
    | y :: r => match r with
      | [] => (match y with
        | .int i => (-(2 ^ 63) ≤ i ∧ i < 2 ^ 63) ∧ withO (seqIndex? i xs.length) fun n => withO xs[n]? fun z => Q z (.lst (xs.eraseIdx n))
        | _ => False)
      | _ :: _ => False)
  | _ => False
theorem mu_popAt : MutD F "list.pop" kPopAt := ⟨rPopAt, fun _ => mt_popAt, fun Z H p o d us ds Q Q' k ha ro rl hk q => by
  match d, ds, hk with
  | .lst xs, [y], hk =>
    cases y with
    | int i =>
      obtain ⟨⟨hz1, hz2⟩, hk⟩ := (show _ ∧ _ from hk)
      obtain ⟨n, e1, hk⟩ := withO_of hk
      obtain ⟨z, e2, hq⟩ := withO_of hk
      cases o with
      | lst vs =>
        have ro : RpL F.K Z vs xs := ro
        obtain ⟨u, rfl, ru⟩ := rpl1 rl
        cases ru
        obtain ⟨v, e3, rv⟩ := ro.get e2
        exact ⟨p, vs, i, n, v, rfl, rfl, ha, hz1, hz2, by rw [ro.len]; exact e1, e3, q v z (.lst _) (.lst _) (ro.er n) rv hq⟩
      | _ => exact (show False from ro).elim
    | _ => exact (show False from hk).elim⟩
theorem re_popAt {wa : WVs} {apos cpos npos : Pos} (i : Nat) (ha : RVs F [e] wa)
    (hN : ∀ j, (F.X j).N[i]? = some x := by intro _; rfl) (hv : ∀ j, Vis (F.X j).env.scope x := by intro _; first | exact Or.inl rfl | exact Or.inr (Or.inl rfl) | exact Or.inr (Or.inr rfl)) (hd : (x == ("__debug__" : Str)) = false := by decide) (hcd : (x == ("__classdict__" : Str)) = false := by decide)
    (hbase : ∀ j, attributeBase (.Name x npos) "pop" (F.X j).env (eval (.Name x npos) (F.X j).env) = eval (.Name x npos) (F.X j).env := by intro _; rfl)
    (hfew : ∀ i, ((backTo cpos (starEach [e] (F.X i).env)).all (fun x => !x.1) && (backToKw cpos (keywordEach [] (F.X i).env)).all (fun x => x.1.isSome)
      && decide ([e].length + ([] : List Keyword).length + (if ([] : List Keyword).isEmpty then 0 else 1) < 30)) = true := by intro _; rfl)
    (hline : (apos.endLine == cpos.line) = true := by rfl) (hs : ∀ i, starEach [e] (F.X i).env = (false, eval e (F.X i).env) :: starEach [] (F.X i).env := by intro _; rfl) (hplain : ∀ i, (backTo cpos (starEach [] (F.X i).env)).any (·.1) = false := by intro _; rfl) :
    RE F (.Call (.Attribute (.Name x npos) "pop" apos) [e] [] cpos) (wMut "list" kPopAt i wa) := re_mut i mu_popAt ha PySem.F.plainAttrs_list PySem.F.slot_list_pop PySem.F.type_list_pop hN hv hd hcd hbase hfew hline hs hplain

/-! ### targets x[e] -/
def putD (ks : List Ky) (xs : List D) (k : Ky) (d : D) : D := if (ks.any fun k' => decide (k' = k)) = true then .dic ks (ks.zip xs |>.map fun p => if p.1 = k then d else p.2) else .dic (ks ++ [k]) (xs ++ [d])
@[simp] def kPut (l x d : D) (Q : D → Prop) : Prop := match l with
  | .lst ds => (match x with
    | .int j => withO (ixN ds.length j) fun n => Q (.lst (ds.set n d))
    | _ => False)
  | .dic ks xs => ks.length < sizeLine ∧ withO (keyD x) fun k => Q (putD ks xs k d)
  | _ => False
@[simp] def gIx (i : Nat) (w : WR) : WG := fun s ρ Q => s.fr fun d => with1 (lent ρ[i]?) fun _ => w noEX ρ fun r ρ1 => with1 (lent ρ1[i]?) fun l => with1 (look ρ1 r) fun x => kPut l x d fun l' => Q (ρ1.set i (lentBack ρ1[i]? l'))
theorem put_rp {K : PySem.W.Frag} {Z : Hp} {kvs : List (Key × V)} {xs : List D} {k : Ky} {v : V} {d : D} (r : RpL K Z (kvs.map (·.2)) xs) (rv : Rp K Z v d) : RpO K Z (.dK (putK kvs k v)) (putD (kvs.map (·.1)) xs k d) := by
  unfold putK putD
  have he : ((kvs.map (·.1)).any fun k' => decide (k' = k)) = kvs.any fun kv => decide (kv.1 = k) := by rw [List.any_map]; rfl
  rw [he]
  by_cases h : (kvs.any fun kv => decide (kv.1 = k)) = true
  · rw [if_pos h, if_pos h]
    refine ⟨?_, ?_⟩
    · rw [List.map_map]
      refine List.map_congr_left fun kv _ => ?_
      by_cases e : kv.1 = k
      · simp [e]
      · simp [e]
    · clear h he
      induction kvs generalizing xs with
      | nil => cases r; exact .nil
      | cons kv kvs ih =>
        cases r with
        | cons r1 r2 =>
          refine .cons ?_ (ih r2)
          by_cases e : kv.1 = k
          · simpa [e] using rv
          · simpa [e] using r1
  · rw [if_neg h, if_neg h]
    refine ⟨by simp, ?_⟩
    rw [List.map_append]
    exact r.snoc rv
theorem rg_ix (i : Nat) {w : WR} {ppos npos : Pos} {vs : List Nat} (hw : RR F e w) (hN : ∀ j, (F.X j).N[i]? = some x := by intro _; rfl) (hv : ∀ j, Vis (F.X j).env.scope x := by intro _; first | exact Or.inl rfl | exact Or.inr (Or.inl rfl) | exact Or.inr (Or.inr rfl)) (hd : (x == ("__debug__" : Str)) = false := by decide) (hcd : (x == ("__classdict__" : Str)) = false := by decide)
    (ha : ∀ j v, assign (.Subscript (.Name x npos) e ppos) (F.X j).env v = (do
      let ov ← holding [v] (eval (.Name x npos) (F.X j).env)
      let iv ← holding [v, ov] (eval e (F.X j).env)
      standAt ppos
      holding [v, ov, iv] (setItem ov iv v)
      release [v, ov, iv] []) := by intro _ _; rfl) : RG F (.Subscript (.Name x npos) e ppos) (gIx i w) vs := by
  obtain ⟨t, a1, a2⟩ := hw
  have hset : ∀ j, PSet (F.X j) (fun o i v H Q => rSetL o i v H Q ∨ rSetD o i v H Q) := fun j pins s σ H o i v ov iv u Q I ro ri rv h => by
    rcases h with h | h
    · exact set_list pins s σ H o i v ov iv u Q I ro ri rv h
    · exact set_dict (un1 (F.un j)) pins s σ H o i v ov iv u Q I ro ri rv h
  refine ⟨_, fun j => pg_sub (pe_var (hN j) (hv j) hd hcd) (a1 j) (hset j) (ha j), fun B σ H ρ Z v s Q Q' S hw q => ?_⟩
  obtain ⟨d, hs, hw⟩ := fr_of hw
  obtain ⟨Z1, le1, S1, rv⟩ := S.thaw1 hs
  obtain ⟨_, e0, hw⟩ := with1_of hw
  obtain ⟨p0, _, hvv, _⟩ := lent_write S1 e0
  have main : ∀ vv : V, σ[i]? = some (some vv) → t σ H (fun y H2 => (rSetL vv y v H2 fun H3 => Q σ H3) ∨ rSetD vv y v H2 fun H3 => Q σ H3) := fun vv hvv => by
    refine a2 B σ H ρ Z1 _ _ noEX S1 (fun _ _ _ _ _ _ _ _ _ _ _ q => q.elim) hw fun y r H2 ρ2 Z2 S2 le2 o2 hw => ?_
    obtain ⟨l, e1, hw⟩ := with1_of hw
    obtain ⟨dx, e2, hk⟩ := with1_of hw
    obtain ⟨p, o, g1, g2, g3, put⟩ := lent_write S2 e1
    rw [hvv] at g1
    cases g1
    have ry := S2.read o2 e2
    cases l with
    | lst ds =>
      cases dx with
      | int j =>
        obtain ⟨n, e3, hq⟩ := withO_of (show withO _ _ from hk)
        cases o with
        | lst us =>
          have g3 : RpL F.K Z2 us ds := g3
          exact .inl ⟨p, us, j, n, rfl, rd_int ry, g2, by rw [g3.len]; exact e3, q σ _ _ _ (put (.lst _) (.lst _) (RpL.set (ds := []) (vs := []) (Rp.le le2 _ _ rv) n g3)) (le1.trans' le2) rfl hq⟩
        | _ => exact (show False from g3).elim
      | _ => exact (show False from hk).elim
    | dic ks xs =>
      obtain ⟨hz, hk⟩ := (show _ ∧ _ from hk)
      obtain ⟨k, e3, hq⟩ := withO_of hk
      cases o with
      | dK kvs =>
        obtain ⟨h1, h2⟩ := (show _ ∧ _ from g3)
        subst h1
        refine .inr ⟨p, _, rfl, .inl ⟨kvs, k, g2, keyD_v ry e3, by rw [List.length_map] at hz; exact hz, rfl⟩, q σ _ _ _ (put (.dK _) _ (put_rp h2 (Rp.le le2 _ _ rv))) (le1.trans' le2) rfl hq⟩
      | _ => exact (show False from g3).elim
    | _ => exact (show False from hk).elim
  exact ⟨_, hvv, main _ hvv⟩
/-- a tuple of n targets -/
@[simp] def tlD : D → Option (List D)
  | .tup ds => some ds
  | .lst ds => some ds
  | _ => none
@[simp] def gTn (n : Nat) (gs : WGs) : WG := fun s ρ Q => s.fr fun d => withO (tlD d) fun ds => ds.length = n ∧ gs ds ρ Q
theorem PG.or {X : Cx} {tg : Expr} {g1 g2 : TG} (h1 : PG X tg g1) (h2 : PG X tg g2) : PG X tg (fun v σ H Q => g1 v σ H Q ∨ g2 v σ H Q) :=
  ⟨fun pins s σ H v u Q I r h => h.elim (h1.run pins s σ H v u Q I r) (h2.run pins s σ H v u Q I r)⟩
theorem rg_tn {kk n : Nat} {gs : WGs} {vs : List Nat} (h : RGs F es gs vs) (hn : ∀ i, (assignEach es (F.X i).env).length = n := by intro _; rfl) (hst : ∀ i, (assignEach es (F.X i).env).findIdx? (·.1) = none := by intro _; rfl) : RG F (.Tuple es kk pos) (gTn n gs) vs := by
  obtain ⟨t, a1, a2⟩ := h
  refine ⟨fun v σ H Q => gTup F.K n t v σ H Q ∨ gLst F.K n t v σ H Q, fun i => by rw [← F.hK i]; exact PG.or (pg_tup (F.calm i) (a1 i) (hn i) (hst i)) (pg_lst (F.calm i) (a1 i) (hn i) (hst i)), fun B σ H ρ Z v s Q Q' S hw q => ?_⟩
  obtain ⟨d, hs, hw⟩ := fr_of hw
  obtain ⟨ds, e, hl, hw2⟩ := withO_of hw
  obtain ⟨Z1, le1, S1, r⟩ := S.thaw1 hs
  cases d with
  | tup ds =>
    cases e
    cases r with
    | tup hz rl => exact .inl ⟨_, _, rfl, .inl (rd_le hz S1.sub), rl.len.trans hl, a2 B σ H ρ Z1 _ _ _ _ S1 rl hw2 fun σ2 H2 ρ2 Z2 S2 le2 w2 hw => q σ2 H2 ρ2 Z2 S2 (le1.trans' le2) w2 hw⟩
  | lst ds =>
    cases e
    cases r with
    | lst hz rl => exact .inr ⟨_, _, rfl, .of (S1.sub _ _ hz), rl.len.trans hl, a2 B σ H ρ Z1 _ _ _ _ S1 rl hw2 fun σ2 H2 ρ2 Z2 S2 le2 w2 hw => q σ2 H2 ρ2 Z2 S2 (le1.trans' le2) w2 hw⟩
  | _ => cases e
end
end Pu

set_option Elab.async false
set_option linter.all false
set_option maxRecDepth 100000
/-! Pu, what loops walk; chains; dict displays. -/
namespace Pu
open PySem L2 PySem.Spec PyProof.Rows

section
variable {F : Fm} {e a b c tg : Expr} {es : List Expr} {pos p : Pos} {x : Str} {id T : String}

/-! ### what loops walk -/
@[simp] def iSq (w : WE) : WI := fun E ρ Q => w E ρ fun s ρ1 => s.fr fun d => withO (seqD d) fun ds => Q ds ρ1
@[simp] def iSt (w : WE) : WI := fun E ρ Q => w E ρ fun s ρ1 => s.fr fun d => match d with
  | .str z => Q (z.cps.toList.map fun c => .str ⟨#[c]⟩) ρ1
  | _ => False
@[simp] def iEn (w : WE) : WI := fun E ρ Q => w E ρ fun s ρ1 => s.fr fun d => withO (seqD d) fun ds => Q (numbered 0 ds) ρ1
@[simp] def zp (Q : List D → Prop) (d d2 : D) : Prop := match d with
  | .lst xs => (match d2 with
    | .lst ys => Q (paired xs ys)
    | _ => False)
  | .tup xs => (match d2 with
    | .tup ys => Q (paired xs ys)
    | _ => False)
  | _ => False
@[simp] def iZp (u w : WE) : WI := fun E ρ Q => u E ρ fun s ρ1 => s.fr fun d => w E ρ1 fun s2 ρ2 => s2.fr fun d2 => zp (Q · ρ2) d d2
theorem seq_z {B : Bs} {σ : L2.St} {H : Hp} {ρ : En} {Z : Hp} {v : V} {d : D} {ds : List D} (S : St1 F.K B σ H ρ Z []) (r : Rp F.K Z v d) (e : seqD d = some ds) : ∃ a vs, v = .ref a ∧ (SqL F.K Z a vs ∨ SqT F.K Z a vs) ∧ RpL F.K Z vs ds := by
  cases d with
  | lst xs =>
    cases e
    cases r with
    | lst h1 h2 => exact ⟨_, _, rfl, .inl (.of h1), h2⟩
  | tup xs =>
    cases e
    cases r with
    | tup h1 h2 => exact ⟨_, _, rfl, .inr (.inl h1), h2⟩
  | scr ns =>
    cases e
    cases r with
    | scr h1 => exact ⟨_, _, rfl, .inl h1, RpL.ints ns⟩
  | _ => cases e
theorem sqT_le {K : PySem.W.Frag} {Z Z' : Hp} {a : Addr} {xs : List V} (h : SqT K Z a xs) (k : Le Z Z') : SqT K Z' a xs := by
  rcases h with h | h
  · exact .inl (rd_le h k)
  · exact .inr h
theorem it_list {K : PySem.W.Frag} {Z : Hp} {a : Addr} {vs : List V} {ds : List D} (h : SqL K Z a vs) (r : RpL K Z vs ds) : ItOk K (Itl K a) Z ds := by
  refine ⟨fun i H le hi => ?_, fun H le => ⟨vs, sqL_le h le, Nat.le_of_eq r.len⟩, fun i d H x H' le e y => ?_⟩
  · have hi' : i < vs.length := by rw [r.len]; exact hi
    exact ⟨vs, vs[i], sqL_le h le, by simp [hi']⟩
  · obtain ⟨rfl, y⟩ := y
    obtain ⟨v, e2, rv⟩ := r.get e
    have := y vs (sqL_le h le)
    rw [e2] at this
    cases this
    exact .inl ⟨rfl, rv⟩
theorem it_tup {K : PySem.W.Frag} {Z : Hp} {a : Addr} {vs : List V} {ds : List D} (h : SqT K Z a vs) (r : RpL K Z vs ds) : ItOk K (Itt K a) Z ds := by
  refine ⟨fun i H le hi => ?_, fun H le => ⟨vs, sqT_le h le, Nat.le_of_eq r.len⟩, fun i d H x H' le e y => ?_⟩
  · have hi' : i < vs.length := by rw [r.len]; exact hi
    exact ⟨vs, vs[i], sqT_le h le, by simp [hi']⟩
  · obtain ⟨rfl, y⟩ := y
    obtain ⟨v, e2, rv⟩ := r.get e
    have := y vs (sqT_le h le)
    rw [e2] at this
    cases this
    exact .inl ⟨rfl, rv⟩
theorem numbered_get : ∀ {ds : List D} {k i : Nat} {d : D}, (numbered k ds)[i]? = some d → ∃ y, ds[i]? = some y ∧ d = .tup [.int ((k + i : Nat) : Int), y]
  | [], k, i, d, e => by simp [numbered] at e
  | x :: ds, k, 0, d, e => by
    have e : some _ = some d := e
    cases e
    exact ⟨x, rfl, rfl⟩
  | x :: ds, k, i + 1, d, e => by
    obtain ⟨y, h1, h2⟩ := numbered_get (ds := ds) (k := k + 1) (i := i) (by simpa [numbered] using e)
    exact ⟨y, by simpa using h1, by rw [h2]; congr 3; omega⟩
theorem numbered_len : ∀ (ds : List D) (k : Nat), (numbered k ds).length = ds.length
  | [], _ => rfl
  | _ :: ds, k => congrArg (· + 1) (numbered_len ds (k + 1))
theorem it_enum {K : PySem.W.Frag} {Z : Hp} {a : Addr} {vs : List V} {ds : List D} (h : SqL K Z a vs) (r : RpL K Z vs ds) : ItOk K (Ite K a) Z (numbered 0 ds) := by
  refine ⟨fun i H le hi => ?_, fun H le => ⟨vs, sqL_le h le, by rw [numbered_len, r.len]; exact Nat.le_refl _⟩, fun i d H x H' le e y => ?_⟩
  · have hi' : i < vs.length := by rw [r.len, ← numbered_len ds 0]; exact hi
    exact ⟨vs, vs[i], sqL_le h le, by simp [hi']⟩
  · obtain ⟨T, z, rfl, hT, rfl, y⟩ := y
    obtain ⟨d', e2, rfl⟩ := numbered_get e
    obtain ⟨v, e3, rv⟩ := r.get e2
    have := y vs (sqL_le h le)
    rw [e3] at this
    cases this
    exact .inr ⟨T, _, _, hT, rfl, rfl, rfl, .cons (by rw [Nat.zero_add]; exact .int _) (.cons rv .nil)⟩
theorem it_enumT {K : PySem.W.Frag} {Z : Hp} {a : Addr} {vs : List V} {ds : List D} (h : SqT K Z a vs) (r : RpL K Z vs ds) : ItOk K (IteT K a) Z (numbered 0 ds) := by
  refine ⟨fun i H le hi => ?_, fun H le => ⟨vs, sqT_le h le, by rw [numbered_len, r.len]⟩, fun i d H x H' le e y => ?_⟩
  · have hi' : i < vs.length := by rw [r.len, ← numbered_len ds 0]; exact hi
    exact ⟨vs, vs[i], sqT_le h le, by simp [hi']⟩
  · obtain ⟨T, z, rfl, hT, rfl, y⟩ := y
    obtain ⟨d', e2, rfl⟩ := numbered_get e
    obtain ⟨v, e3, rv⟩ := r.get e2
    have := y vs (sqT_le h le)
    rw [e3] at this
    cases this
    exact .inr ⟨T, _, _, hT, rfl, rfl, rfl, .cons (by rw [Nat.zero_add]; exact .int _) (.cons rv .nil)⟩
/-- a list or a tuple, walked -/
def iSqV (K : PySem.W.Frag) (tl : TE) : TI := fun σ H R => tl σ H fun x H1 => ∃ a xs, x = .ref a ∧ ((SqL K H1 a xs ∧ R (Itl K a) H1) ∨ (SqT K H1 a xs ∧ R (Itt K a) H1))
theorem pi_sq {X : Cx} {l : Expr} {tl : TE} (hl : PE X l tl) : PI X tg l (iSqV X.K tl) := by
  refine ⟨fun pins s σ H R I h => ?_⟩
  refine thn (hl.run pins s σ H _ I h) fun v s1 ⟨x, H1, I1, r1, q1⟩ => ?_
  obtain ⟨a, xs, e, q1⟩ := q1
  subst e
  cases r1
  have fp : ∀ b ∈ [s1.heap.objs.size], FpOk X pins H1 b := fun b hb => by
    have e : b = s1.heap.objs.size := by simpa using hb
    subst e
    exact I1.fpOk (Nat.le_refl _) (I1.hok.fresh (Nat.le_refl _))
  rcases q1 with ⟨hq, q⟩ | ⟨hq, q⟩
  · obtain ⟨its, rv, p, hz⟩ := I1.list hq
    exact wpAny_pyIter_list p.isList ⟨s1.heap.objs.size, [s1.heap.objs.size], _, _, H1, rfl, I1.kept (t' := s1.toks) fun b o e => Heap.get?_push_of_some _ e, turn_list a _, ⟨_, Heap.get?_push_size _ rfl, rfl, rfl⟩, fp, q⟩
  · obtain ⟨its, rv, p, hz⟩ := I1.tuple hq
    exact wpAny_pyIter_tuple (show s1.heap.IsTuple a its.toArray from p) ⟨s1.heap.objs.size, [s1.heap.objs.size], _, _, H1, rfl, I1.kept (t' := s1.toks) fun b o e => Heap.get?_push_of_some _ e, turn_tuple a _, ⟨_, Heap.get?_push_size _ rfl, rfl, rfl⟩, fp, q⟩
theorem ri_sq {w : WE} (h : RE F e w) : RI F tg e (iSq w) := by
  obtain ⟨t, a1, a2⟩ := h
  refine ⟨iSqV F.K t, fun i => by rw [← F.hK i]; exact pi_sq (a1 i), fun B σ H ρ Z R R' E S X hw q => a2 B σ H ρ Z _ _ E S X hw fun v s H1 ρ1 Z1 S1 le1 hw => ?_⟩
  obtain ⟨d, hs, hw⟩ := fr_of hw
  obtain ⟨ds, e1, hq⟩ := withO_of hw
  obtain ⟨Z2, le2, S2, r⟩ := S1.thaw1 hs
  obtain ⟨p, vs, rfl, hsq, rl⟩ := seq_z S2 r e1
  rcases hsq with hs | hs
  · exact ⟨p, vs, rfl, .inl ⟨sqL_le hs S2.sub, q _ ds H1 ρ1 Z2 S2 (le1.trans' le2) (it_list hs rl) hq⟩⟩
  · exact ⟨p, vs, rfl, .inr ⟨sqT_le hs S2.sub, q _ ds H1 ρ1 Z2 S2 (le1.trans' le2) (it_tup hs rl) hq⟩⟩
theorem ri_st {w : WE} (h : RE F e w) : RI F tg e (iSt w) := by
  obtain ⟨t, a1, a2⟩ := h
  refine ⟨_, fun i => pi_str (a1 i), fun B σ H ρ Z R R' E S X hw q => a2 B σ H ρ Z _ _ E S X hw fun v s H1 ρ1 Z1 S1 le1 hw => ?_⟩
  obtain ⟨d, hs, hw⟩ := fr_of hw
  obtain ⟨Z2, le2, S2, r⟩ := S1.thaw1 hs
  cases d with
  | str z =>
    cases r
    refine ⟨z, rfl, q (Its z) _ H1 ρ1 Z2 S2 (le1.trans' le2) ⟨fun i H le hi => ?_, fun H le => ?_, fun i d H x H' le e y => ?_⟩ hw⟩
    · simpa [Its] using hi
    · simp [Its]
    · obtain ⟨rfl, c, e2, rfl⟩ := y
      have e : (z.cps.toList.map fun c => D.str ⟨#[c]⟩)[i]? = some d := e
      rw [List.getElem?_map] at e
      have e3 : z.cps.toList[i]? = some c := by simpa using e2
      rw [e3] at e
      cases e
      exact .inl ⟨rfl, .str _⟩
  | _ => exact (show False from hw).elim
theorem rng_get {a b : Int} {i : Nat} {d : D} (e : (rangeD a b)[i]? = some d) : d = .int (a + (i : Nat)) := by
  unfold rangeD at e
  rw [List.getElem?_map] at e
  cases h : (List.range (b - a).toNat)[i]? with
  | none => rw [h] at e; cases e
  | some j =>
    rw [h] at e
    have := List.getElem?_eq_some_iff.mp h
    obtain ⟨h1, h2⟩ := this
    rw [List.getElem_range] at h2
    subst h2
    have e : some _ = some d := e
    cases e
    rfl
theorem rng_len {a b : Int} : (rangeD a b).length = (b - a).toNat := by unfold rangeD; simp
theorem it_rng {K : PySem.W.Frag} {Z : Hp} {a b : Int} : ItOk K (Itr a (b - a).toNat) Z (rangeD a b) :=
  ⟨fun i H le hi => by rw [rng_len] at hi; exact hi, fun H le => by rw [rng_len]; exact Nat.le_refl _, fun i d H x H' le e y => by
    obtain ⟨rfl, rfl⟩ := y
    rw [rng_get e]
    exact .inl ⟨rfl, .int _⟩⟩
theorem ri_rng1 {pr : Pos} {w : WR} (h : RR F e w) (hm : ∀ i, (F.X i).mg "range" = none) (hg : ∀ i, Gl (F.X i) "range" := by intro _; rfl) (hs : ∀ i, starEach [e] (F.X i).env = [(false, eval e (F.X i).env)] := by intro _; rfl) : RI F tg (.Call (.Name "range" pr) [e] [] pos) (iRng1 w) := by
  obtain ⟨t, a1, a2⟩ := h
  refine ⟨_, fun i => pi_range1 (hg i) (hm i) (pa_cons (a1 i) pa_nil (hs i)) (hs i), fun B σ H ρ Z R R' E S X hw q => a2 B σ H ρ Z _ _ E S X hw fun x r H1 ρ1 Z1 S1 le1 o1 hw => ?_⟩
  obtain ⟨d, e1, hk⟩ := with1_of hw
  cases d with
  | int b =>
    obtain ⟨⟨h1, h2⟩, hq⟩ := (show _ ∧ _ from hk)
    refine ⟨b, by rw [rd_int (S1.read o1 e1)], h1, h2, ?_⟩
    have := it_rng (K := F.K) (Z := Z1) (a := 0) (b := b)
    rw [Int.sub_zero] at this
    exact q _ _ H1 ρ1 Z1 S1 le1 this hq
  | _ => exact (show False from hk).elim
theorem ri_rng2 {pr : Pos} {u w : WR} (h : RR F a u) (h' : RR F b w) (hm : ∀ i, (F.X i).mg "range" = none) (hg : ∀ i, Gl (F.X i) "range" := by intro _; rfl) (hs : ∀ i, starEach [a, b] (F.X i).env = [(false, eval a (F.X i).env), (false, eval b (F.X i).env)] := by intro _; rfl)
    (hs2 : ∀ i, starEach [b] (F.X i).env = [(false, eval b (F.X i).env)] := by intro _; rfl) : RI F tg (.Call (.Name "range" pr) [a, b] [] pos) (iRng2 u w) := by
  obtain ⟨t, a1, a2⟩ := h
  obtain ⟨t', b1, b2⟩ := h'
  refine ⟨_, fun i => pi_range2 (hg i) (hm i) (pa_cons (a1 i) (pa_cons (b1 i) pa_nil (hs2 i)) (by rw [hs i, hs2 i])) (hs i) (hs2 i), fun B σ H ρ Z R R' E S X hw q => a2 B σ H ρ Z _ _ E S X hw fun x r H1 ρ1 Z1 S1 le1 o1 hw => b2 B σ H1 ρ1 Z1 _ _ E S1 X hw fun y r2 H2 ρ2 Z2 S2 le2 o2 hw => ?_⟩
  obtain ⟨dx, dy, e1, e2, hk⟩ := with2_of hw
  cases dx with
  | int i =>
    cases dy with
    | int j =>
      obtain ⟨hh, hq⟩ := (show _ ∧ _ from hk)
      exact ⟨i, j, by rw [rd_int (S2.read (o1.le le2) e1), rd_int (S2.read o2 e2)], hh, q _ _ H2 ρ2 Z2 S2 (le1.trans' le2) it_rng hq⟩
    | _ => exact (show False from hk).elim
  | _ => exact (show False from hk).elim
def k1' (f : D → Prop) : List D → Prop
  | [] => False
  | d :: r => match r with
    | [] => f d
    | _ :: _ => False
theorem k1'_of {f : D → Prop} {ds : List D} (h : k1' f ds) : ∃ d, ds = [d] ∧ f d := by
  match ds, h with
  | [d], h => exact ⟨d, rfl, h⟩
def k2' (f : D → D → Prop) : List D → Prop
  | [] => False
  | d :: r => match r with
    | [] => False
    | e :: r => match r with
      | [] => f d e
      | _ :: _ => False
theorem k2'_of {f : D → D → Prop} {ds : List D} (h : k2' f ds) : ∃ d e, ds = [d, e] ∧ f d e := by
  match ds, h with
  | [d, e], h => exact ⟨d, e, rfl, h⟩
theorem rpl2 {K : PySem.W.Frag} {Z : Hp} {us : List V} {d e : D} (h : RpL K Z us [d, e]) : ∃ u w, us = [u, w] ∧ Rp K Z u d ∧ Rp K Z w e := by
  cases h with
  | cons r t =>
    obtain ⟨w, rfl, q⟩ := rpl1 t
    exact ⟨_, w, rfl, r, q⟩
theorem ri_en {pr tpos : Pos} {elts : List Expr} {kk : Nat} {w : WE} (h : RE F e w) (hm : ∀ i, (F.X i).mg "enumerate" = none) (hg : ∀ i, Gl (F.X i) "enumerate" := by intro _; rfl) (hs : ∀ i, starEach [e] (F.X i).env = [(false, eval e (F.X i).env)] := by intro _; rfl) :
    RI F (.Tuple elts kk tpos) (.Call (.Name "enumerate" pr) [e] [] pos) (iEn w) := by
  obtain ⟨t, a1, a2⟩ := rvs_cons h rvs_nil hs
  refine ⟨iEnumA F.K t, fun i => by rw [← F.hK i]; exact pi_enumA (hg i) (hm i) (a1 i) (hs i), fun B σ H ρ Z R R' E S X hw q => a2 B σ H ρ Z _ (fun ds ρ1 => k1' (fun d => withO (seqD d) fun ds => R' (numbered 0 ds) ρ1) ds) E S X hw fun vs0 ds0 H1 ρ1 Z2 S2 le2 rl0 hw => ?_⟩
  obtain ⟨d, rfl, hw⟩ := k1'_of hw
  obtain ⟨v, rfl, r⟩ := rpl1 rl0
  obtain ⟨ds, e1, hq⟩ := withO_of hw
  obtain ⟨p, vs, rfl, hsq, rl⟩ := seq_z S2 r e1
  rcases hsq with hs | hs
  · exact ⟨p, vs, rfl, .inl ⟨sqL_le hs S2.sub, q _ _ H1 ρ1 Z2 S2 le2 (it_enum hs rl) hq⟩⟩
  · exact ⟨p, vs, rfl, .inr ⟨sqT_le hs S2.sub, q _ _ H1 ρ1 Z2 S2 le2 (it_enumT hs rl) hq⟩⟩
theorem paired_get : ∀ {xs ys : List D} {i : Nat} {d : D}, (paired xs ys)[i]? = some d → ∃ x y, xs[i]? = some x ∧ ys[i]? = some y ∧ d = .tup [x, y]
  | [], _, i, d, e => by simp [paired] at e
  | _ :: _, [], i, d, e => by simp [paired] at e
  | x :: xs, y :: ys, 0, d, e => by
    have e : some _ = some d := e
    cases e
    exact ⟨x, y, rfl, rfl, rfl⟩
  | x :: xs, y :: ys, i + 1, d, e => by
    obtain ⟨u, w, h1, h2, h3⟩ := paired_get (xs := xs) (ys := ys) (i := i) (by simpa [paired] using e)
    exact ⟨u, w, by simpa using h1, by simpa using h2, h3⟩
theorem paired_len : ∀ (xs ys : List D), (paired xs ys).length = min xs.length ys.length
  | [], _ => by simp [paired]
  | _ :: _, [] => by simp [paired]
  | x :: xs, y :: ys => by simp [paired, paired_len xs ys]
theorem ri_zp {pr tpos : Pos} {elts : List Expr} {kk : Nat} {u w : WE} (h : RE F a u) (h' : RE F b w) (hm : ∀ i, (F.X i).mg "zip" = none) (hg : ∀ i, Gl (F.X i) "zip" := by intro _; rfl) (hs : ∀ i, starEach [a, b] (F.X i).env = (false, eval a (F.X i).env) :: starEach [b] (F.X i).env := by intro _; rfl)
    (hs2 : ∀ i, starEach [b] (F.X i).env = (false, eval b (F.X i).env) :: starEach [] (F.X i).env := by intro _; rfl) (hpl : ∀ i, (backTo pos (starEach [b] (F.X i).env)).any (·.1) = false := by intro _; rfl) :
    RI F (.Tuple elts kk tpos) (.Call (.Name "zip" pr) [a, b] [] pos) (iZp u w) := by
  obtain ⟨t, a1, a2⟩ := rvs_cons h (rvs_cons h' rvs_nil hs2) hs
  refine ⟨RZ.iZipA F.K t, fun i => by rw [← F.hK i]; exact RZ.pi_zipA (hg i) (hm i) (a1 i) (hs i) (hpl i), fun B σ H ρ Z R R' E S X hw q => a2 B σ H ρ Z _ (fun ds ρ1 => k2' (fun d d2 => zp (R' · ρ1) d d2) ds) E S X hw fun vs0 ds0 H2 ρ2 Z3 S3 lez rl0 hw => ?_⟩
  obtain ⟨d, d2, rfl, hw⟩ := k2'_of hw
  obtain ⟨v, v2, rfl, r1, r3⟩ := rpl2 rl0
  cases d with
  | lst xs =>
    cases d2 with
    | lst ys =>
      cases r1 with
      | lst h1 g1 =>
        cases r3 with
        | lst h2 g2 =>
          rename_i pa vs pb us
          refine ⟨pa, pb, vs, us, rfl, .inl ⟨.of (S3.sub _ _ h1), .of (S3.sub _ _ h2), q _ _ H2 ρ2 Z3 S3 lez ⟨fun i H le hi => ?_, fun H le => ⟨vs, us, .of (le _ _ h1), .of (le _ _ h2), ?_⟩, fun i d H x H' le e y => ?_⟩ hw⟩⟩
          · rw [paired_len, ← g1.len, ← g2.len] at hi
            have i1 : i < vs.length := by omega
            have i2 : i < us.length := by omega
            exact ⟨vs, us, vs[i], us[i], .of (le _ _ h1), .of (le _ _ h2), by simp [i1], by simp [i2]⟩
          · rw [paired_len, ← g1.len, ← g2.len]; omega
          · obtain ⟨T, x1, y1, rfl, hT, rfl, y2, y3⟩ := y
            obtain ⟨dx, dy, e1, e2, rfl⟩ := paired_get e
            obtain ⟨v1, e3, rv1⟩ := g1.get e1
            obtain ⟨v2, e4, rv2⟩ := g2.get e2
            have q1 := y2 vs (.of (le _ _ h1))
            have q2 := y3 us (.of (le _ _ h2))
            rw [e3] at q1
            rw [e4] at q2
            cases q1
            cases q2
            exact .inr ⟨T, _, _, hT, rfl, rfl, rfl, .cons rv1 (.cons rv2 .nil)⟩
    | _ => exact (show False from hw).elim
  | tup xs =>
    cases d2 with
    | tup ys =>
      cases r1 with
      | tup h1 g1 =>
        cases r3 with
        | tup h2 g2 =>
          rename_i pa vs pb us
          refine ⟨pa, pb, vs, us, rfl, .inr ⟨.inl (rd_le h1 S3.sub), .inl (rd_le h2 S3.sub), q _ _ H2 ρ2 Z3 S3 lez ⟨fun i H le hi => ?_, fun H le => ⟨vs, us, .inl (rd_le h1 le), .inl (rd_le h2 le), ?_⟩, fun i d H x H' le e y => ?_⟩ hw⟩⟩
          · rw [paired_len, ← g1.len, ← g2.len] at hi
            have i1 : i < vs.length := by omega
            have i2 : i < us.length := by omega
            exact ⟨vs, us, vs[i], us[i], .inl (rd_le h1 le), .inl (rd_le h2 le), by simp [i1], by simp [i2]⟩
          · rw [paired_len, ← g1.len, ← g2.len]; omega
          · obtain ⟨T, x1, y1, rfl, hT, rfl, y2, y3⟩ := y
            obtain ⟨dx, dy, e1, e2, rfl⟩ := paired_get e
            obtain ⟨v1, e3, rv1⟩ := g1.get e1
            obtain ⟨v2, e4, rv2⟩ := g2.get e2
            have q1 := y2 vs (.inl (rd_le h1 le))
            have q2 := y3 us (.inl (rd_le h2 le))
            rw [e3] at q1
            rw [e4] at q2
            cases q1
            cases q2
            exact .inr ⟨T, _, _, hT, rfl, rfl, rfl, .cons rv1 (.cons rv2 .nil)⟩
    | _ => exact (show False from hw).elim
  | _ => exact (show False from hw).elim

/-! ### a op b op' c -/
@[simp] def wChain (k k' : K2) (a b c : WR) : WE := fun E ρ Q => a E ρ fun r1 ρ1 => b E ρ1 fun r2 ρ2 => with2 (look ρ2 r1) (look ρ2 r2) fun x y => k x y fun s => match s with
  | .fz (.bl d) => if d = true then c E ρ2 fun r3 ρ3 => with2 (look ρ3 r2) (look ρ3 r3) fun y z => k' y z fun s' => Q s' ρ3 else Q (.fz (.bl false)) ρ2
  | _ => False
theorem chain_ok {ta tb tc : TE} {wa wb wc : WR} {r r' : R2} {k k' : K2} (ha : LR F ta wa) (hb : LR F tb wb) (hc : LR F tc wc) (hr : ∀ B σ H ρ Z x y dx dy Q Q', St1 F.K B σ H ρ Z [] → Rd1 F.K Z H x dx → Rd1 F.K Z H y dy → k dx dy Q' → Rc F B σ ρ Q' Q → r x y H Q)
    (hr' : ∀ B σ H ρ Z x y dx dy Q Q', St1 F.K B σ H ρ Z [] → Rd1 F.K Z H x dx → Rd1 F.K Z H y dy → k' dx dy Q' → Rc F B σ ρ Q' Q → r' x y H Q) : LE F (tChain r r' ta tb tc) (wChain k k' wa wb wc) := by
  refine LE.of fun B σ H ρ Z Q Q' E S X hw q => ha B σ H ρ Z _ _ E S X hw fun x r1 H1 ρ1 Z1 S1 le1 o1 hw => hb B σ H1 ρ1 Z1 _ _ E S1 X hw fun y r2 H2 ρ2 Z2 S2 le2 o2 hw => ?_
  obtain ⟨dx, dy, e1, e2, hk⟩ := with2_of hw
  obtain ⟨B', S2', back⟩ := S2.base
  refine hr B' σ H2 ρ2 Z2 x y dx dy _ _ S2' (S2.read (o1.le le2) e1) (S2.read o2 e2) hk fun v s H' Z' S' hq => ?_
  obtain ⟨S3, le3⟩ := back _ _ _ _ _ S'
  cases s with
  | fz d =>
    cases d with
    | bl d =>
      obtain ⟨Z4, le4, S4, rv⟩ := S3.thaw1 (.inl rfl)
      cases rv
      refine ⟨d, rfl, ?_⟩
      cases d with
      | true =>
        rw [if_pos rfl]
        have hq : wc E ρ2 fun r3 ρ3 => with2 (look ρ3 r2) (look ρ3 r3) fun y z => k' y z fun s' => Q' s' ρ3 := by simpa using hq
        refine hc B σ H' ρ2 Z4 _ _ E S4 X hq fun z r3 H5 ρ5 Z5 S5 le5 o5 hw => ?_
        obtain ⟨dy', dz, e3, e4, hk⟩ := with2_of hw
        exact hr' B σ H5 ρ5 Z5 y z dy' dz Q _ S5 (S5.read (((o2.le le3).le le4).le le5) e3) (S5.read o5 e4) hk fun v s H6 Z6 S6 hq => q v s H6 ρ5 Z6 S6 hq
      | false =>
        have hq : Q' (.fz (.bl false)) ρ2 := by simpa using hq
        rw [if_neg Bool.false_ne_true]
        exact q _ _ _ _ _ (S4.have (.bl false)) hq
    | _ => exact (show False from hq).elim
  | _ => exact (show False from hq).elim
theorem re_chain {op op' : CmpOp} {k k' : K2} {wa wb wc : WR} (ho : OpD F (compareOp op) k) (ho' : OpD F (compareOp op') k') (ha : RR F a wa) (hb : RR F b wb) (hc : RR F c wc) (hm : lastMarks [op, op'] [b, c] = false := by with_unfolding_all rfl) : RE F (.Compare a [op, op'] [b, c] pos) (wChain k k' wa wb wc) := by
  obtain ⟨r, h1, h2⟩ := ho
  obtain ⟨r', g1, g2⟩ := ho'
  obtain ⟨ta, a1, a2⟩ := ha
  obtain ⟨tb, b1, b2⟩ := hb
  obtain ⟨tc, c1, c2⟩ := hc
  exact ⟨_, fun i => pe_chain (h1 i) (g1 i) (a1 i) (b1 i) (c1 i) hm, chain_ok a2 b2 c2 h2 g2⟩
theorem rt_chain {op op' : CmpOp} {k k' : K2} {wa wb wc : WR} (ho : OpD F (compareOp op) k) (ho' : OpD F (compareOp op') k') (ha : RR F a wa) (hb : RR F b wb) (hc : RR F c wc) (hm : lastMarks [op, op'] [b, c] = false := by with_unfolding_all rfl) : RT F (.Compare a [op, op'] [b, c] pos) (tV (wChain k k' wa wb wc)) := by
  obtain ⟨r, h1, h2⟩ := ho
  obtain ⟨r', g1, g2⟩ := ho'
  obtain ⟨ta, a1, a2⟩ := ha
  obtain ⟨tb, b1, b2⟩ := hb
  obtain ⟨tc, c1, c2⟩ := hc
  refine ⟨_, fun i => pt_chain (h1 i) (g1 i) (a1 i) (b1 i) (c1 i) hm, fun B σ H ρ Z Q Q' E S X hw q => chain_ok a2 b2 c2 h2 g2 B σ H ρ Z _ _ E S X hw fun x s H1 ρ1 Z1 S1 le1 hw => ?_⟩
  cases s with
  | fz d =>
    cases d with
    | bl c =>
      obtain ⟨Z2, le2, S2, r⟩ := S1.thaw1 (.inl rfl)
      cases r
      exact ⟨c, rfl, q c H1 ρ1 Z2 S2 (le1.trans' le2) hw⟩
    | _ => exact (show False from hw).elim
  | _ => exact (show False from hw).elim

/-! ### {k: v, ..} -/
/-- texts or ints as keys, from the left -/
abbrev WPs := EX → En → (List (Ky × D) → En → Prop) → Prop
@[simp] def psN : WPs := fun _ ρ Q => Q [] ρ
@[simp] def psC (k v : WE) (r : WPs) : WPs := fun E ρ Q => k E ρ fun s ρ1 => s.fr fun dk => withO (keyD dk) fun k => v E ρ1 fun s2 ρ2 => s2.fr fun d => r E ρ2 fun ps ρ3 => Q ((k, d) :: ps) ρ3
@[simp] def mergeD : D → List (Ky × D) → D
  | d, [] => d
  | .dic ks xs, (k, v) :: r => mergeD (putD ks xs k v) r
  | d, _ :: _ => d
@[simp] def wDic (r : WPs) : WE := fun E ρ Q => r E ρ fun ps ρ1 => ps.length ≤ 15 ∧ Q (.ow (mergeD (.dic [] []) ps)) ρ1
def LPs (F : Fm) (trs : List (TE × TE)) (w : WPs) : Prop := ∀ B σ H ρ Z (Q : List (V × V) → Hp → Prop) Q' E, St1 F.K B σ H ρ Z [] → ExOk F B E → w E ρ Q' → (∀ vs ps H' ρ' Z', St1 F.K B σ H' ρ' Z' [] → Le Z Z' → Paired (fun (p : V × V) (q : Ky × D) => p.1 = kV q.1 ∧ Rp F.K Z' p.2 q.2) vs ps → Q' ps ρ' → Q vs H') → tPairs trs σ H Q
def RPs (F : Fm) (pos : Pos) (keys : List (Option Expr)) (values : List Expr) (w : WPs) : Prop := ∃ trs, (∀ i, PPs (F.X i) pos keys values trs) ∧ LPs F trs w
theorem rps_nil : RPs F pos [] [] psN := ⟨[], fun _ => pps_nil, fun B σ H ρ Z Q Q' E S X hw q => q [] [] H ρ Z S (fun _ _ z => z) .nil hw⟩
theorem rps_cons {k v : Expr} {ks : List (Option Expr)} {vs : List Expr} {wk wv : WE} {wr : WPs} (hk : RE F k wk) (hv : RE F v wv) (hr : RPs F pos ks vs wr) : RPs F pos (some k :: ks) (v :: vs) (psC wk wv wr) := by
  obtain ⟨tk, a1, a2⟩ := hk
  obtain ⟨tv, b1, b2⟩ := hv
  obtain ⟨tr, c1, c2⟩ := hr
  refine ⟨_, fun i => pps_cons (a1 i) (b1 i) (c1 i), fun B σ H ρ Z Q Q' E S X hw q => a2 B σ H ρ Z _ _ E S X hw fun x s H1 ρ1 Z1 S1 le1 hw => ?_⟩
  obtain ⟨dk, hs, hw⟩ := fr_of hw
  obtain ⟨key, ek, hw⟩ := withO_of hw
  obtain ⟨Z1', le1', S1', r⟩ := S1.thaw1 hs
  refine b2 B σ H1 ρ1 Z1' _ _ E S1' X hw fun y s2 H2 ρ2 Z2 S2 le2 hw => ?_
  obtain ⟨d, hs2, hw⟩ := fr_of hw
  obtain ⟨Z3, le3, S3, r3⟩ := S2.thaw1 hs2
  refine c2 B σ H2 ρ2 Z3 _ _ E S3 X hw fun vs ps H4 ρ4 Z4 S4 le4 pr hw => ?_
  exact q _ _ H4 ρ4 Z4 S4 (le1.trans' (le1'.trans' (le2.trans' (le3.trans' le4)))) (.cons ⟨keyD_v (K := F.K) (Z := Z1') (H := H1) (.inl r) ek, Rp.le le4 _ _ r3⟩ pr) hw
theorem merge_rp {K : PySem.W.Frag} {Z : Hp} : ∀ {more : List (Key × V)} {ps : List (Ky × D)} {kvs : List (Key × V)} {xs : List D}, Paired (fun (p : Key × V) (q : Ky × D) => p.1 = q.1 ∧ Rp K Z p.2 q.2) more ps → RpL K Z (kvs.map (·.2)) xs → RpO K Z (.dK (mergeK kvs more)) (mergeD (.dic (kvs.map (·.1)) xs) ps)
  | _, _, kvs, xs, .nil, r => ⟨rfl, r⟩
  | (k, v) :: more, (k', d) :: ps, kvs, xs, .cons h t, r => by
    obtain ⟨h1, h2⟩ := h
    have h1 : k = k' := h1
    subst h1
    have := put_rp (k := k) r h2
    show RpO K Z (.dK (mergeK (putK kvs k v) more)) (mergeD (putD (kvs.map (·.1)) xs k d) ps)
    have e : ∃ xs', putD (kvs.map (·.1)) xs k d = .dic ((putK kvs k v).map (·.1)) xs' ∧ RpL K Z ((putK kvs k v).map (·.2)) xs' := by
      unfold putD at this ⊢
      split at this
      · rename_i hh
        rw [if_pos hh]
        exact ⟨_, by rw [this.1], this.2⟩
      · rename_i hh
        rw [if_neg hh]
        exact ⟨_, by rw [this.1], this.2⟩
    obtain ⟨xs', e, r'⟩ := e
    rw [e]
    exact merge_rp t r'
theorem pairs_kv {K : PySem.W.Frag} {Z : Hp} {vs : List (V × V)} {ps : List (Ky × D)} (pr : Paired (fun (p : V × V) (q : Ky × D) => p.1 = kV q.1 ∧ Rp K Z p.2 q.2) vs ps) :
    ∃ kvs : List (Key × V), vs = kvs.map (fun kv => (kV kv.1, kv.2)) ∧ Paired (fun (p : Key × V) (q : Ky × D) => p.1 = q.1 ∧ Rp K Z p.2 q.2) kvs ps := by
  induction pr with
  | nil => exact ⟨[], rfl, .nil⟩
  | cons h t ih =>
    rename_i a b l r
    obtain ⟨kvs, e, pk⟩ := ih
    refine ⟨(b.1, a.2) :: kvs, ?_, .cons ⟨rfl, h.2⟩ pk⟩
    rw [e]
    show _ = (kV b.1, a.2) :: _
    rw [← h.1]
theorem re_dic {keys : List (Option Expr)} {values : List Expr} {w : WPs} (h : RPs F pos keys values w) (hall : keys.all (·.isSome) = true := by rfl) (hl : keys.length = values.length := by rfl) (h0 : keys ≠ [] := by intro h; cases h) (h15 : keys.length ≤ 15 := by decide) : RE F (.Dict keys values pos) (wDic w) := by
  obtain ⟨t, a1, a2⟩ := h
  refine ⟨tDisp t, fun i => pe_disp (a1 i) hall hl h0 h15, LE.of fun B σ H ρ Z Q Q' E S X hw q => fun p hp => ?_⟩
  have S0 : St1 F.K B σ (upd H p (.dK [])) ρ Z [(.ref p, .ow (.dic [] []))] := S.alloc1 (o := .dK []) (d := .dic [] []) hp ⟨rfl, .nil⟩
  obtain ⟨B', S', back⟩ := S0.hold (.inr ⟨_, rfl⟩)
  have X' : ExOk F B' E := fun σ' H' ρ' Z' C dx v d S r rp qq => X σ' H' ρ' Z' C dx v d (back _ _ _ _ _ S).1.drop r rp qq
  refine a2 B' σ _ ρ Z _ _ E S' X' hw fun vs ps H1 ρ1 Z1 S1 le1 pr ⟨hz, hw⟩ => ?_
  obtain ⟨S2, _⟩ := back _ _ _ _ _ S1
  obtain ⟨o, ho, ro, put⟩ := S2.writeT
  have ho' : o = .dK [] := by
    cases o with
    | dK kvs =>
      obtain ⟨h1, h2⟩ := (show _ ∧ _ from ro)
      cases kvs with
      | nil => rfl
      | cons _ _ => cases h1
    | _ => exact (show False from ro).elim
  subst ho'
  obtain ⟨kvs, e1, pk⟩ := pairs_kv pr
  refine ⟨ho, kvs, e1, by rw [pd_len pk]; exact hz, q _ _ _ _ _ (put _ _ (merge_rp (kvs := []) pk .nil)) hw⟩
end
end Pu

set_option Elab.async false
set_option linter.all false
set_option maxRecDepth 100000
/-! Pu, set(xs), xs a list of ints, over the heap. -/
namespace L2
open PySem PySem.Spec PyProof.Rows
section
variable {P : Program} {w : World} {A : Around} {E : Value → Shared → Prop} {s : Shared}
set_option maxRecDepth 100000 in
set_option maxHeartbeats 3200000 in
theorem call_set_lstI {l : Addr} {items : Array Value} (ns : List Int) {Q : Value → Shared → Prop} (hh : A.handled = none) (hl : s.heap.IsList l items) (hit : IntsAre items.toList ns) (hb : ns.length + 1 < scanBound)
    (h : ∀ (h' : Heap) (tk c : Nat), SetR w h' s.heap.objs.size (fun j => decide (j ∈ ns)) c → c ≤ ns.length → (∀ b o, s.heap.get? b = some o → h'.get? b = some o) → Q (.ref s.heap.objs.size) { s with heap := h', toks := tk }) :
    wpAny (model P w) A (call (.type "set") [.ref l]) Q E s := by
  have hisz : items.size = ns.length := by
    have q := IntsAre.length hit
    rw [Array.length_toList] at q
    exact q
  obtain ⟨c, tl, hmro⟩ := F.called_set.mro
  have hmade := F.called_set.made
  have hsub := F.called_set.sub
  refine wpAny_call (codeAny_of_tree ?_)
  show wpAny _ _ (callAny (.type "set") _) _ _ _
  refine wpAny_pure ⟨Code.quiet_builtin _ (by decide +kernel), codeAny_builtin F.entry_type_call ?_⟩
  rw [Around.under_plain (weight_type_call_type "set" [.ref l] []) rfl]
  have h1 := F.called_set.notType
  have h2 := F.called_set.canCreate
  have hct := F.typeCall_set_1 (.ref l)
  repeat (any_goals (first | assumption | wp_step))

  refine codeAny_mono (code_set_led1 (.ref l) (E := E) (Q₁ := fun obj s₁ => obj = .ref s.heap.objs.size ∧ s₁ = { s with heap := s.heap.push { cls := .type "set", dict := none, data := .set #[] 0 (.fresh 0 0 (!w.params.followText "set-order")) } }) ⟨rfl, rfl⟩) fun r s₁ hr => ?_
  cases r with
  | error e => exact hr
  | ok fl =>
    cases fl with
    | ret obj =>
      obtain ⟨rfl, rfl⟩ := hr
      have hS : (s.heap.push { cls := .type "set", dict := none, data := .set #[] 0 (.fresh 0 0 (!w.params.followText "set-order")) }).get? s.heap.objs.size = some { cls := .type "set", dict := none, data := .set #[] 0 (.fresh 0 0 (!w.params.followText "set-order")) } := Heap.get?_push_size _ rfl
      have hT : Shared.TypeIs { s with heap := s.heap.push { cls := .type "set", dict := none, data := .set #[] 0 (.fresh 0 0 (!w.params.followText "set-order")) } } (.ref s.heap.objs.size) "set" := ⟨_, hS, rfl⟩
      have hli := F.called_set.init.lookup
      have hbi := F.called_set.init.bind (.ref s.heap.objs.size)
      repeat (any_goals (first | assumption | wp_step))

      refine codeAny_mono (codeAny_call_builtin (R := wants (fun r s₂ => r = .none ∧ ∃ h' tk c, s₂ = { s with heap := h', toks := tk } ∧ SetR w h' s.heap.objs.size (fun j => decide (j ∈ ns)) c ∧ c ≤ ns.length ∧
          (∀ b o, s.heap.get? b = some o → h'.get? b = some o)) E) F.called_set.init.plain F.entry_set_init (check_set_init_1 hT ?_)) fun r₂ s₂ hr₂ => ?_
      · obtain ⟨ol, hol, hcl, nl, hdl⟩ := hl
        obtain ⟨ocls, odict, odata, oslots⟩ := ol
        simp only at hcl hdl
        subst hcl; subst hdl
        have hol' : (s.heap.push { cls := .type "set", dict := none, data := .set #[] 0 (.fresh 0 0 (!w.params.followText "set-order")) }).get? l = some { cls := .type "list", dict := odict, data := .seq items nl, slots := oslots } := Heap.get?_push_of_some _ hol
        have hsls := F.sub_list_set
        have hslf := F.sub_list_frozenset
        have hne : (Value.type "list" == Value.type "dict") = false := by decide
        have hl1 : (s.heap.push { cls := .type "set", dict := none, data := .set #[] 0 (.fresh 0 0 (!w.params.followText "set-order")) }).IsList l items := ⟨_, hol', rfl, nl, rfl⟩
        unfold Builtin.«set.__init__» noKeywords Builtin.Frozenset.updateFrom
        generalize hPI : pyIter = PI
        wp_walk
        subst hPI

        refine wpAny_pyIter_list hl1 ?_
        refine wpAny_bind (wpAny_runValue ?_)
        have hlS : l < s.heap.objs.size := Heap.lt_size hol
        have hh3 : A.in1.in1.in1.handled = none := by simp [hh]
        have hz1 : (s.heap.push { cls := .type "set", dict := none, data := .set #[] 0 (.fresh 0 0 (!w.params.followText "set-order")) }).objs.size = s.heap.objs.size + 1 := Heap.size_push ..
        have hneI : l ≠ (s.heap.push { cls := .type "set", dict := none, data := .set #[] 0 (.fresh 0 0 (!w.params.followText "set-order")) }).objs.size := by
          rw [Heap.size_push]; exact Nat.ne_of_lt (Nat.lt_succ_of_lt hlS)
        have hSf : s.heap.objs.size ∉ [(s.heap.push { cls := .type "set", dict := none, data := .set #[] 0 (.fresh 0 0 (!w.params.followText "set-order")) }).objs.size, l] := by
          rw [Heap.size_push]; simp only [List.mem_cons, List.mem_singleton, List.not_mem_nil, or_false, not_or]
          exact ⟨Nat.ne_of_lt (Nat.lt_succ_self _), Nat.ne_of_gt hlS⟩
        have hval : ∀ (i : Nat) (v : Value), items[i]? = some v → ∃ k t, ns[i]? = some k ∧ v = .int k t := fun i v hv => by
          have hi : i < ns.length := by rw [← hisz]; exact (Array.getElem?_eq_some_iff.mp hv).1
          obtain ⟨t, e⟩ := PyProof.Rows.IntsAre.int_at hit i v (by rw [Array.getElem?_toList]; exact hv)
          refine ⟨ns[i], t, List.getElem?_eq_getElem hi, ?_⟩
          rw [e, List.getD_eq_getElem?_getD, List.getElem?_eq_getElem hi] <;> rfl
        refine set_update_ints ((Walks.list hh3 _ l hneI items).toS) s.heap.objs.size
          hSf ns hisz hb hval (items.size - 0) 0 _ (by omega) (Nat.zero_le _)
          ⟨⟨_, Heap.get?_push_size _ rfl, rfl, rfl⟩, (hl1.push _)⟩ ?hS0 ?hR
        case hS0 =>
          have hget : ((s.heap.push { cls := .type "set", dict := none, data := .set #[] 0 (.fresh 0 0 (!w.params.followText "set-order")) }).push { cls := .type "list_iterator", data := .fields #[.ref l, .int 0 0] }).get? s.heap.objs.size
              = some { cls := .type "set", dict := none, data := .set #[] 0 (.fresh 0 0 (!w.params.followText "set-order")) } := Heap.get?_push_of_some _ hS
          exact ⟨0, Nat.le_refl 0, setR_new_at hget⟩
        case hR =>
          intro s' c' hm hc' hS'
          obtain ⟨h', g2, d', tk', os'⟩ := s'
          have eg : g2 = s.gens := hm.gens
          have ed : d' = s.drawn := hm.drawn
          have eo : os' = s.os := hm.os
          subst eg; subst ed; subst eo
          show wpAny _ _ _ _ _ _
          refine wpAny_pure ?_
          show wpAny _ _ (ret Value.none) _ _ _
          rw [hisz] at hc'
          refine wpAny_pure ⟨rfl, h', tk', c', rfl, hS', hc', fun b o e => ?_⟩
          have hb0 : b < s.heap.objs.size := Heap.lt_size e
          have hb1 : b ≠ s.heap.objs.size := Nat.ne_of_lt hb0
          have hb2 : b ≠ (s.heap.push { cls := .type "set", dict := none, data := .set #[] 0 (.fresh 0 0 (!w.params.followText "set-order")) }).objs.size := by
            rw [Heap.size_push]; exact Nat.ne_of_lt (Nat.lt_succ_of_lt hb0)
          exact hm.heap b o (by simp only [List.mem_cons, List.mem_singleton, List.not_mem_nil, or_false, not_or]; exact ⟨hb1, hb2⟩) (Heap.get?_push_of_some _ (Heap.get?_push_of_some _ e))

      · cases r₂ with
        | error e => exact hr₂
        | ok fl₂ =>
          cases fl₂ with
          | ret r =>
            obtain ⟨rfl, h', tk, c', rfl, hS', hc', hk'⟩ := hr₂
            repeat (any_goals (first | assumption | wp_step))
            exact h _ _ _ hS' hc' hk'
          | _ => exact hr₂.elim
    | _ => exact hr.elim

end
end L2

set_option Elab.async false
set_option linter.all false
set_option maxRecDepth 100000
/-! Pu, sorted, repr, dict(zip(..)), isinstance, index on a told tuple. -/
namespace Pu
open PySem L2 PySem.Spec PyProof.Rows PySem.W

/-! ### sorted -/
section
variable {prog : Program} {w : World} {A : Around} {E : Value → Shared → Prop} {s : Shared}
theorem collect_tupL {l : Addr} {vs : List Value} {Q : List Value → Shared → Prop} (hl : s.heap.IsTuple l vs.toArray)
    (h : Q vs { s with heap := (s.heap.push (seqObj "list" #[] 0)).update s.heap.objs.size (Obj.mapSeq (· ++ vs.toArray)) }) (hsz : vs.length ≤ sizeLine) :
    wpAny (model prog w) A (collect (.ref l)) Q E s := by
  obtain ⟨o, ho, hc, n, hd⟩ := id hl
  unfold collect
  refine wpAny_bind (wpAny_runValue (codeAny_builtin entry_proto_collect' ?_))
  show wpAny _ _ (do again (.builtin "list.__iadd__" ⟨[← newList [], .ref l], []⟩)) _ _ s
  refine wpAny_bind (wpAny_newList (wpAny_pure ⟨Code.quiet_builtin _ (by decide +kernel), codeAny_builtin entry_list_iadd' ?_⟩))
  show wpAny _ _ (Builtin.List.listExtendWith (.ref s.heap.objs.size) (.ref l) (.ref s.heap.objs.size)) _ _ { s with heap := s.heap.push (seqObj "list" #[] 0) }
  unfold Builtin.List.listExtendWith
  have ho' : (s.heap.push (seqObj "list" #[] 0)).get? l = some o := Heap.get?_push_of_some _ ho
  refine wpAny_bind (wpAny_typeOf (T := "tuple") ⟨o, ho', hc⟩ ?_)
  have ht : (Value.type "tuple" == Value.type "tuple") = true := by rfl
  rw [if_pos (by rw [ht]; simp)]
  refine wpAny_bind (listItems_at ho' hd ?_)
  refine wpAny_bind (listItems_at (xs := #[]) (n := 0) (Heap.get?_push_size _ rfl) rfl ?_)
  rw [if_neg (by simp)]
  refine wpAny_bind (listUpdate_at (xs := #[]) (n := 0) (Heap.get?_push_size _ rfl) rfl ?_ (Nat.zero_le _) (by show (#[] ++ vs.toArray).size ≤ sizeLine + 1; simp only [Array.size_append, List.size_toArray, List.length_nil]; omega))
  refine wpAny_pure ?_
  show wpAny (model prog w) A (do
      let o ← load s.heap.objs.size
      match o.data with
      | .seq xs _ => pure xs.toList
      | _ => unsupported "internal:collect") Q E { s with heap := (s.heap.push (seqObj "list" #[] 0)).update s.heap.objs.size (Obj.mapSeq (· ++ vs.toArray)) }
  refine wpAny_bind (wpAny_load (get?_update_seq (Heap.get?_push_size _ rfl) _) ?_)
  show wpAny _ _ (pure ((#[] : Array Value) ++ vs.toArray).toList) Q E _
  rw [show ((#[] : Array Value) ++ vs.toArray).toList = vs by simp]
  exact wpAny_pure h
theorem sorted_of_sortT {l : Addr} {vs : List Value} {Q : Value → Shared → Prop} (hl : s.heap.IsTuple l vs.toArray) (hL : vs.length ≤ sizeLine)
    (body : ∀ E' : Value → Shared → Prop, wpAny (model prog w) A.in1.in1 (Builtin.«list.sort» ⟨[.ref (s.heap.objs.size + 1)], []⟩) (fun f s' => f = .done (.ret .none) ∧ Q (.ref (s.heap.objs.size + 1)) s') E' { s with heap := copyHeap s.heap vs }) :
    wpAny (model prog w) A (call (.builtin "sorted") [.ref l]) Q E s := by
  refine call_function_entry_kw kind_sorted plain_sorted entry_sorted (args_sorted1 _) ?_
  unfold Builtin.«sorted»
  refine wpAny_bind (m := checkCount "sorted" 1 1 _) (wpAny_pure ?_)
  refine wpAny_bind (collect_tupL hl ?_ hL)
  refine wpAny_bind (wpAny_newList ?_ hL)
  have hsz : ((s.heap.push (seqObj "list" #[] 0)).update s.heap.objs.size (Obj.mapSeq (· ++ vs.toArray))).objs.size = s.heap.objs.size + 1 := by
    rw [Heap.size_update, size_push']
  show wpAny _ _ _ _ _ { s with heap := copyHeap s.heap vs }
  rw [hsz]
  refine wpAny_bind (wpAny_holding (wpAny_call_entry_kw slot_list_sort ⟨_, copyHeap_at s.heap vs, rfl⟩ entry_list_sort ?body (args_list_sort _)))
  case body =>
    show wpAny (model prog w) A.in1.in1 (Builtin.«list.sort» ⟨[.ref (s.heap.objs.size + 1)], []⟩) _ _ _
    refine wpAny_mono (body _) (fun f s' hf => ?_) fun _ _ e => e
    obtain ⟨rfl, hq⟩ := hf
    exact ⟨_, rfl, wpAny_pure ⟨_, rfl, hq⟩⟩
theorem sorted_both {β : Type} {vs : List Value} {bs : List β} {enc : β → PyData} {R : Value → β → Prop} {l : Addr} {Q : Value → Shared → Prop} (hl : s.heap.IsList l vs.toArray ∨ s.heap.IsTuple l vs.toArray) (e : EachIs R vs bs) (er : EachIs (fun v b => ∃ as, Reads s.heap v (enc b) as) vs bs) (hal : AllAlike (bs.map enc)) (hk : Sortable (bs.map enc)) (hL : bs.length ≤ sizeLine)
    (hu : ∀ b, b ∈ bs → A.units + 2 + (enc b).depth < cLine) (h : ∀ out, out.length = bs.length → EachIs R out (bs.mergeSort (dataLe false enc)) → Q (.ref (s.heap.objs.size + 1)) { s with heap := sortedAll s.heap vs (List.toArray out) }) :
    wpAny (model prog w) A (call (.builtin "sorted") [.ref l]) Q E s := by
  rcases hl with hl | hl
  · exact sorted_data hl e er hal hk hL hu h
  · have er' : EachIs (fun v b => ∃ as, Reads (sortingHeap (copyHeap s.heap vs) (s.heap.objs.size + 1) vs) v (enc b) as) vs bs := er.mono fun _ _ ⟨as, r⟩ => ⟨as, PyProof.Rows.Reads.keeps (fun _ _ => sorting_copy_old) r⟩
    have S : SortsAt prog w A.in1.in1 { s with heap := sortingHeap (copyHeap s.heap vs) (s.heap.objs.size + 1) vs } _ vs :=
      SortsAt.data (s := { s with heap := sortingHeap (copyHeap s.heap vs) (s.heap.objs.size + 1) vs }) (each_map (R := fun v d => ∃ as, Reads (sortingHeap (copyHeap s.heap vs) (s.heap.objs.size + 1) vs) v d as) enc er') hal hk (bound_map hu)
    exact sorted_of_sortT hl (by rw [e.length]; exact hL) fun _ => list_sort_vals (s := { s with heap := copyHeap s.heap vs }) (copyHeap_at s.heap vs) S (by rw [e.length]; exact hL) ⟨rfl, h _ (by rw [sortVals_length false rfl]; exact e.length) (sortVals_data false e er' hal)⟩
end
theorem pys_map : ∀ ds : List D, pys ds = ds.map D.py
  | [] => rfl
  | d :: ds => congrArg (d.py :: ·) (pys_map ds)
/-- sorted(xs): xs a list or a tuple of data -/
def leD (x y : D) : Bool := dataLe false D.py x y
@[simp] def kSorted : KN := k1 fun d Q => withO (seqD d) fun ds => plains ds = true ∧ AllAlike (ds.map D.py) ∧ Sortable (ds.map D.py) ∧ ds.length ≤ sizeLine ∧ (∀ b, b ∈ ds → b.py.depth ≤ 64) ∧ Q (.ow (.lst (ds.mergeSort leD)))
section
variable {F : Fm} {e a b c tg : Expr} {es : List Expr} {pos p : Pos} {x : Str} {id T : String}
theorem each_of {α β : Type} {R : α → β → Prop} : ∀ {as : List α} {bs : List β}, Paired R as bs → EachIs R as bs
  | _, _, .nil => .nil
  | _, _, .cons h t => .cons h (each_of t)
theorem pd_of {α β : Type} {R : α → β → Prop} : ∀ {as : List α} {bs : List β}, EachIs R as bs → Paired R as bs
  | _, _, .nil => .nil
  | _, _, .cons h t => .cons h (pd_of t)
/-- each value is what some x is told by, x standing for d -/
def Via (K : PySem.W.Frag) (Z : Hp) (v : Value) (d : D) : Prop := ∃ x, L2.RelV x v ∧ Rp K Z x d
theorem via_of {K : PySem.W.Frag} {Z : Hp} : ∀ {xs : List V} {ds : List D} {us : List Value}, RpL K Z xs ds → Vals xs us → EachIs (Via K Z) us ds
  | _, _, _, .nil, .nil => .nil
  | _, _, _, .cons h t, .cons r rr => .cons ⟨_, r, h⟩ (via_of t rr)
theorem via_back {K : PySem.W.Frag} {Z : Hp} : ∀ {us : List Value} {ds : List D}, EachIs (Via K Z) us ds → ∃ xs, Vals xs us ∧ RpL K Z xs ds
  | _, _, .nil => ⟨[], .nil, .nil⟩
  | _, _, .cons ⟨x, r, h⟩ t => by
    obtain ⟨xs, rr, hh⟩ := via_back t
    exact ⟨x :: xs, .cons r rr, .cons h hh⟩
theorem mem_merge {ds : List D} {f : D → D → Bool} : (ds.mergeSort f).length = ds.length := List.length_mergeSort ds
def rSortD (K : PySem.W.Frag) : List V → Hp → VK → Prop := fun xs H Q => ∃ (a : Addr) (Z : Hp) (vs : List V) (ds : List D), xs = [.ref a] ∧ (SqL K H a vs ∨ SqT K H a vs) ∧ Le Z H ∧ RpL K Z vs ds ∧ plains ds = true ∧ AllAlike (ds.map D.py) ∧ Sortable (ds.map D.py) ∧ ds.length ≤ sizeLine ∧ (∀ b, b ∈ ds → b.py.depth ≤ 64) ∧
  ∀ (ys : List V) p, H p = none → RpL K Z ys (ds.mergeSort leD) → Q (.ref p) (upd H p (.lst ys))
theorem plains_mem : ∀ {ds : List D}, plains ds = true → ∀ d ∈ ds, d.plain = true
  | d :: ds, h, b, m => by
    have h : d.plain = true ∧ plains ds = true := Bool.and_eq_true_iff.mp h
    rcases List.mem_cons.mp m with rfl | m
    · exact h.1
    · exact plains_mem h.2 b m
theorem cr_sortD {X : Cx} (hu : X.A.units + 80 < cLine) : CallR X (.builtin "sorted") (rSortD X.K) := by
  rintro pins s σ H xs us Q I r ⟨a, Z, vs, ds, rfl, hs, le, rl, pl, hal, hk, hL, hd, q⟩
  rw [Vals.ref1 r]
  have go : ∀ {its : List Value}, Vals vs its → (s.heap.IsList a its.toArray ∨ s.heap.IsTuple a its.toArray) → wpAny (model X.prog X.w) X.A (call (.builtin "sorted") [.ref a]) (EP X pins σ Q) X.xe s := fun {its} rv hl => by
    have e : EachIs (Via X.K Z) its ds := via_of rl rv
    have er : EachIs (fun v (b : D) => ∃ as, Reads s.heap v b.py as) its ds := by
      have : ∀ {us : List Value} {ds : List D}, EachIs (Via X.K Z) us ds → plains ds = true → EachIs (fun v (b : D) => ∃ as, Reads s.heap v b.py as) us ds := by
        intro us ds h
        induction h with
        | nil => intro _; exact .nil
        | cons h t ih =>
          intro pl
          have pl := Bool.and_eq_true_iff.mp pl
          obtain ⟨x, rx, hx⟩ := h
          exact .cons (Dp.reads I _ x _ (dp_of le _ x hx pl.1) rx) (ih pl.2)
      exact this e pl
    refine sorted_both (enc := D.py) hl e er hal hk hL (fun b hb => by have := hd b hb; omega) fun out ho eo => ?_
    obtain ⟨ys, ry, hy⟩ := via_back eo
    obtain ⟨ep, he'⟩ := PyProof.Rows.sortedAll_at s.heap its (List.toArray out)
    have hlen : ys.length ≤ sizeLine := by rw [hy.len, mem_merge]; exact hL
    exact ⟨.ref _, upd H (s.heap.objs.size + 1) (.lst ys), I.laid (t' := s.toks) (fun _ _ => PyProof.Rows.sortedAll_old) (Nat.le_succ _) ⟨hlen, out, ep, ry, he'⟩, rfl, q ys _ (I.hok.fresh (Nat.le_succ _)) hy⟩
  rcases hs with hs | hs
  · obtain ⟨its, rv, pl', hz⟩ := I.list hs
    exact go rv (.inl pl'.isList)
  · obtain ⟨its, rv, pl', hz⟩ := I.tuple hs
    exact go rv (.inr pl')
theorem cd_sorted : CallD F (.builtin "sorted") kSorted := cd1 (r := rSortD F.K) (fun i => by rw [← F.hK i]; exact cr_sortD (F.un i)) fun B σ H ρ Z x d Q Q' S rx hk q => by
  obtain ⟨ds, e, pl, hal, hks, hL, hd, hq⟩ := withO_of hk
  obtain ⟨p, vs, rfl, hs, r⟩ := rd_seq S rx e
  exact ⟨p, Z, vs, ds, rfl, hs, S.sub, r, pl, hal, hks, hL, hd, fun ys l hl hy => q _ _ _ _ (S.alloc1 (o := .lst _) (d := .lst _) hl hy) hq⟩

/-! ### sorted(set(xs)), xs a list of ints -/
theorem nd_le : ∀ {l m : List Int}, l.Nodup → (∀ k ∈ l, k ∈ m) → l.length ≤ m.length
  | [], _, _, _ => Nat.zero_le _
  | x :: l, m, nd, h => by
    have hx := h x (List.mem_cons_self ..)
    have nd := List.nodup_cons.mp nd
    have := nd_le (m := m.erase x) nd.2 fun k hk => by
      have hne : k ≠ x := fun e => nd.1 (e ▸ hk)
      exact (List.mem_erase_of_ne hne).mpr (h k (List.mem_cons_of_mem _ hk))
    rw [List.length_erase_of_mem hx] at this
    have h1 : 0 < m.length := List.length_pos_of_mem hx
    rw [List.length_cons]
    omega
@[simp] def kSortedSet : KN := k1 fun d Q => withO ((lstD d).bind intsOf) fun is => (is.length ≤ 4000 ∧ ∃ m : List Int, m.length < 64 ∧ ∀ k ∈ is, k ∈ m) ∧ ∀ out : List Int, out.Pairwise (· < ·) → (∀ k, k ∈ out ↔ k ∈ is) → Q (.ow (.lst (out.map D.int)))
def rSetL (K : PySem.W.Frag) (w : World) : List V → Hp → VK → Prop := fun xs H Q => ∃ (l : Addr) (ns : List Int), xs = [.ref l] ∧ SqL K H l (ns.map V.int) ∧ (ns.length ≤ 4000 ∧ ∃ m : List Int, m.length < 64 ∧ ∀ k ∈ ns, k ∈ m) ∧ ∀ a n, n < 64 → H a = none → Q (.ref a) (upd H a (SetO w a (fun j => decide (j ∈ ns)) n))
theorem cr_setL {X : Cx} (hc : X.calm = true) : CallR X (.type "set") (rSetL X.K X.w) := by
  rintro pins s σ H xs us Q I r ⟨l, ns, rfl, hs, ⟨h4, m, hm, hsub⟩, q⟩
  rw [Vals.ref1 r]
  obtain ⟨its, rv, pl, hz⟩ := I.list hs
  refine call_set_lstI ns (I.ok.hd hc) pl.isList (by simpa using rv.ints) (by unfold scanBound; omega) fun h' tk c R hc' kp => ?_
  have hn : c < 64 := by
    obtain ⟨o, es, ep, t, _, _, _, _, nd, hmm, _, _, hsz, _⟩ := R
    have := nd_le (m := m) nd fun k hk => hsub k (by simpa using (hmm k).mpr hk)
    rw [List.length_map, Array.length_toList, hsz] at this
    omega
  exact ⟨.ref _, upd H s.heap.objs.size (SetO X.w s.heap.objs.size (fun j => decide (j ∈ ns)) c), I.laid (t' := tk) kp (Nat.le_refl _) (setO_new R), rfl, q _ c hn (I.hok.fresh (Nat.le_refl _))⟩
theorem re_sortedSet {ps pset : Pos} {wa : WRs} (hm1 : ∀ i, (F.X i).mg "sorted" = none) (hm2 : ∀ i, (F.X i).mg "set" = none) (ha : RRs F [e] wa) (hg : ∀ i, Gl (F.X i) "sorted" := by intro _; rfl) (hg2 : ∀ i, Gl (F.X i) "set" := by intro _; rfl)
    (he : ∀ i, starEach [e] (F.X i).env = (false, eval e (F.X i).env) :: starEach [] (F.X i).env := by intro _; rfl) (hpl : ∀ i, (backTo ps (starEach [] (F.X i).env)).any (·.1) = false := by intro _; rfl)
    (he2 : ∀ i, starEach [.Call (.Name "set" pset) [e] [] ps] (F.X i).env = (false, eval (.Call (.Name "set" pset) [e] [] ps) (F.X i).env) :: starEach [] (F.X i).env := by intro _; rfl) (hpl2 : ∀ i, (backTo pos (starEach [] (F.X i).env)).any (·.1) = false := by intro _; rfl) :
    RE F (.Call (.Name "sorted" p) [.Call (.Name "set" pset) [e] [] ps] [] pos) (wB kSortedSet wa) := by
  obtain ⟨t, a1, a2⟩ := ha
  refine ⟨_, fun i => pe_callB (p := p) (pos := pos) (r := rSortedSet F.w) (by rw [← F.hw i]; exact cr_sortedSet (F.calm i)) (hg i) (hm1 i) (by rfl) (pa_cons (pe_callTy (p := pset) (pos := ps) (r := rSetL F.K F.w) (by rw [← F.hw i, ← F.hK i]; exact cr_setL (F.calm i)) (hg2 i) (hm2 i) PyProof.Rows.boot_set (a1 i) (by decide) (by decide) (he i) (hpl i)) pa_nil (he2 i)) (by decide) (by decide) (he2 i) (hpl2 i),
    LE.of fun B σ H ρ Z Q Q' E S X hw q => a2 B σ H ρ Z _ _ E S X hw fun xs rs H1 ρ1 Z1 S1 le1 o1 hw => ?_⟩
  obtain ⟨ds, e1, hk⟩ := withN_of hw
  obtain ⟨d, rfl, hk⟩ := k1_of hk
  obtain ⟨x, rfl, rx⟩ := pd1 (S1.reads o1 e1)
  obtain ⟨is, e2, hz, hq⟩ := withO_of hk
  obtain ⟨l, rfl, hs⟩ := rd_ints S1 rx e2
  refine ⟨l, is, rfl, hs, hz, fun a n hn ha => ?_⟩
  obtain ⟨S2, le2⟩ := S1.allocZ (o := SetO F.w a (fun j => decide (j ∈ is)) n) ha
  refine ⟨a, _, n, rfl, upd_same, hn, fun ns p hp hmem hlen hfree => ?_⟩
  exact q _ _ _ _ _ (S2.alloc1 (o := .lst _) (d := .lst _) hfree (RpL.ints ns)) (hq ns hp fun k => (hmem k).trans (by simp))
end
end Pu

set_option Elab.async false
set_option linter.all false
set_option maxRecDepth 100000
/-! Pu, repr, isinstance, index on a told tuple, lists of own lists. -/
namespace Pu
open PySem L2 PySem.Spec PyProof.Rows PySem.W

mutual
theorem noDict_of : ∀ d : PyData, d.canLay0 = true → d.hasDict = false
  | .none, _ => rfl
  | .bool _, _ => rfl
  | .int _, _ => rfl
  | .str _, _ => rfl
  | .list xs, h => noDicts_of xs h
  | .tuple xs, h => noDicts_of xs h
  | .dict _, h => by cases h
theorem noDicts_of : ∀ ds : List PyData, PyData.canLayAll0 ds = true → PyData.hasDictAll ds = false
  | [], _ => rfl
  | d :: ds, h => by
    have h : d.canLay0 = true ∧ PyData.canLayAll0 ds = true := Bool.and_eq_true_iff.mp h
    show (d.hasDict || PyData.hasDictAll ds) = false
    rw [noDict_of d h.1, noDicts_of ds h.2]
    rfl
end
section
variable {F : Fm} {e a b c tg : Expr} {es : List Expr} {pos p : Pos} {x : Str} {id T : String}
def rReprD (K : PySem.W.Frag) : List V → Hp → VK → Prop := fun xs H Q => ∃ (x : V) (d : PyData), xs = [x] ∧ Dp K H x d ∧ d.canLay0 = true ∧ d.showable = true ∧ d.shown.length ≤ sizeLine ∧ d.depth ≤ 64 ∧ Q (.str d.shown) H
theorem cr_repr {X : Cx} (hg : X.A.guards = some []) (hu : X.A.units + 80 < cLine) : CallR X (.builtin "repr") (rReprD X.K) := by
  rintro pins s σ H xs us Q I r ⟨x, d, rfl, hd, hl, hs, hz, hdp, q⟩
  obtain ⟨u, rfl, rx⟩ := vals1 r
  obtain ⟨as, rd⟩ := Dp.reads I d x u hd rx
  have fin : ∀ h' t tk, (∀ b o, s.heap.get? b = some o → h'.get? b = some o) → EP X pins σ Q (.str d.shown t) { s with heap := h', toks := tk } := fun h' t tk k =>
    ⟨.str _, H, I.kept (t' := tk) k, ⟨_, rfl⟩, q⟩
  have fin0 : ∀ t tk, EP X pins σ Q (.str d.shown t) { s with toks := tk } := fun t tk => fin s.heap t tk fun _ _ e => e
  cases rd with
  | none => exact P.repr_of_none (fin0 _ _)
  | bool b => exact P.repr_of_bool (fin0 _ _)
  | int i t => exact P.repr_of_int (by simpa [PyData.showable] using hs) (fin0 _ _)
  | str x t => exact P.repr_of_str (fin0 _ _) hz
  | list h1 h2 h3 h4 => exact repr_of_reads' (.list h1 h2 h3 h4) hs (fun z => by rw [noDict_of _ hl] at z; cases z) hg (by omega) (fun _ _ e => e) (fun h' t tk k => fin h' t tk k) hz
  | tuple h1 h2 h3 h4 => exact repr_of_reads' (.tuple h1 h2 h3 h4) hs (fun z => by rw [noDict_of _ hl] at z; cases z) hg (by omega) (fun _ _ e => e) (fun h' t tk k => fin h' t tk k) hz
  | dict _ _ _ _ _ => cases hl
@[simp] def kRepr : KN := k1 fun d Q => (d.plain = true ∧ d.py.showable = true ∧ d.py.shown.length ≤ sizeLine ∧ d.py.depth ≤ 64) ∧ Q (.fz (.str d.py.shown))
theorem cd_repr : CallD F (.builtin "repr") kRepr := cd1 (r := rReprD F.K) (fun i => by rw [← F.hK i]; exact cr_repr (F.gd i) (F.un i)) fun B σ H ρ Z x d Q Q' S rx hk q => by
  obtain ⟨⟨h1, h2, h3, h4⟩, hq⟩ := hk
  exact ⟨x, d.py, rfl, dp_rd S rx h1, lay_of d h1, h2, h3, h4, q _ _ _ _ (S.have (.str _)) hq⟩

/-! ### isinstance -/
@[simp] def tyN : D → Option String
  | .non => some "NoneType"
  | .bl _ => some "bool"
  | .int _ => some "int"
  | .str _ => some "str"
  | .lst _ => some "list"
  | .tup _ => some "tuple"
  | .dic _ _ => some "dict"
  | _ => none
theorem kit_rd {X : Cx} {B : Bs} {σ : L2.St} {H : Hp} {ρ : En} {Z : Hp} {v : V} {d : D} {n : String} {pins : List (Addr × Obj)} {s : Shared} {u : Value} {t : L2.St} (I : Inv X pins t H s) (hx : Rp X.K H v d) (rx : L2.RelV v u) (e : tyN d = some n) :
    ∃ P : Heap → Prop, PySem.W.KitX X.K u (.type n) P ∧ P s.heap ∧ u ≠ .builtin "__main__.__loader__#opaque" := by
  cases d with
  | non => cases e; cases hx; exact kit_of I rx (.base .non)
  | bl _ => cases e; cases hx; exact kit_of I rx (.base (.bl _))
  | int _ => cases e; cases hx; exact kit_of I rx (.base (.int _))
  | str _ => cases e; cases hx; exact kit_of I rx (.base (.str _))
  | lst _ => cases e; cases hx with | lst h1 h2 => exact kit_of I rx (.base (.lst h1))
  | dic _ _ => cases e; cases hx with | dic h1 h2 h3 => exact kit_of I rx (.base (.dK h1))
  | tup _ =>
    cases e
    cases hx with
    | tup h1 h2 =>
      rcases h1 with h1 | ⟨o, h1⟩
      · exact kit_of I rx (.base (.tup h1))
      · rename_i a vs
        cases (show u = Value.ref a from rx)
        obtain ⟨_, _, _, _, o', h1, h2, _⟩ := (show ObjOk X.prog X.w H s.heap a (.frz o (.tup vs)) from I.hok a _ h1)
        exact ⟨_, PySem.W.kitx_tuple, ⟨o', h1, h2⟩, fun z => nomatch z⟩
  | _ => cases e
/-- isinstance(x, T), T a type -/
def rIsTyD (T : String) : TE → TE := fun te σ H Q => te σ H fun x H1 => ∃ (K : PySem.W.Frag) (d : D) (n : String) (b : Bool), Rp K H1 x d ∧ tyN d = some n ∧ kitB n T = some b ∧ Q (.bl b) H1
@[simp] def wIsTy (T : String) (w : WR) : WE := fun E ρ Q => w E ρ fun r ρ1 => with1 (look ρ1 r) fun d => withO (tyN d) fun n => withO (kitB n T) fun b => Q (.fz (.bl b)) ρ1
def rIsTyK (K : PySem.W.Frag) (T : String) : List V → Hp → VK → Prop := fun xs H Q => ∃ (x : V) (d : D) (n : String) (b : Bool), xs = [x, .ty T] ∧ Rp K H x d ∧ tyN d = some n ∧ kitB n T = some b ∧ Q (.bl b) H
theorem cr_isTyK {X : Cx} {T : String} : CallR X (.builtin "isinstance") (rIsTyK X.K T) := by
  rintro pins s σ H xs us Q I r ⟨x, d, n, b, rfl, hx, hn, hb, q⟩
  obtain ⟨u1, u2, rfl, r1, r2⟩ := vals2 r
  cases (show u2 = Value.type T from r2)
  obtain ⟨P, Z, p, hne⟩ := kit_rd (B := ⟨fun _ => none, fun _ => none, fun _ => none, fun _ => 0⟩) (σ := σ) (ρ := []) (Z := H) I hx r1 hn
  exact PySem.W.kia_one Z I.kIn p (kit_ty hb) hne fun tk => ⟨.bl b, H, I.tok tk, rfl, q⟩
theorem re_isTy {pt : Pos} {w : WR} {y : Str} (T : String) (ha : RR F e w) (hm : ∀ i, (F.X i).mg "isinstance" = none) (hm2 : ∀ i, (F.X i).mg y = none) (hy : bootBuiltins y = some (.type T) := by rfl) (hg : ∀ i, Gl (F.X i) "isinstance" := by intro _; rfl) (hg2 : ∀ i, Gl (F.X i) y := by intro _; rfl) (hn : y ≠ "__name__" := by decide) (hdb : (y == ("__debug__" : Str)) = false := by decide)
    (he : ∀ i, starEach [e, .Name y pt] (F.X i).env = (false, eval e (F.X i).env) :: starEach [.Name y pt] (F.X i).env := by intro _; rfl) (he2 : ∀ i, starEach [.Name y pt] (F.X i).env = (false, eval (.Name y pt) (F.X i).env) :: starEach [] (F.X i).env := by intro _; rfl) (hpl : ∀ i, (backTo pos (starEach [.Name y pt] (F.X i).env)).any (·.1) = false := by intro _; rfl) :
    RE F (.Call (.Name "isinstance" p) [e, .Name y pt] [] pos) (wIsTy T w) := by
  obtain ⟨t, a1, a2⟩ := ha
  refine ⟨_, fun i => pe_callB (r := rIsTyK F.K T) (by rw [← F.hK i]; exact cr_isTyK) (hg i) (hm i) (by rfl) (pa_cons (a1 i) (pa_cons (pe_bltn (v := V.ty T) (hg2 i) (hm2 i) hy rfl hn hdb) pa_nil (he2 i)) (he i)) (by decide) (by decide) (he i) (hpl i), fun B σ H ρ Z Q Q' E S X hw q => a2 B σ H ρ Z _ _ E S X hw fun v r H1 ρ1 Z1 S1 le1 o1 hw => ?_⟩
  obtain ⟨d, e1, hw⟩ := with1_of hw
  obtain ⟨n, e2, hw⟩ := withO_of hw
  obtain ⟨b, e3, hq⟩ := withO_of hw
  exact ⟨v, d, n, b, rfl, rd1_le S1 (S1.read o1 e1), e2, e3, q _ _ _ _ _ (S1.have (.bl b)) le1 hq⟩
/-- isinstance(x, C), x an instance of C -/
structure InsOf (K : PySem.W.Frag) (C : Addr) : Prop where
  cl : Cls K C
  ha : PySem.W.findIn K (.ref C) "__class__" = some (some (.builtin "object.__class__"))
  hn : PySem.W.specialIn K (.builtin "object.__class__") "__get__" = some (some (.builtin "getset_descriptor.__get__"))
  tk : PySem.W.takesIn K (.builtin "object.__class__") = some true
  hm : PySem.W.mroIn K C (.type "object") = some true
@[simp] def wIsC (C : Nat) (w : WR) : WE := fun E ρ Q => w E ρ fun r ρ1 => with1 (look ρ1 r) fun d => match d with
  | .ins C' _ _ => C' = C ∧ Q (.fz (.bl true)) ρ1
  | _ => False
theorem kit_self {K : PySem.W.Frag} {C : Addr} : PySem.W.kitOne K (.ref C) (.ref C) = some true := by
  unfold PySem.W.kitOne
  rw [if_pos (by simp)]
theorem re_isC {pt : Pos} {w : WR} {y : Str} (C : Addr) (hC : InsOf F.K C) (ha : RR F e w) (hm : ∀ i, (F.X i).mg "isinstance" = none) (hm2 : ∀ i, (F.X i).mg y = some (.ref C)) (hg : ∀ i, Gl (F.X i) "isinstance" := by intro _; rfl) (hg2 : ∀ i, Gl (F.X i) y := by intro _; rfl) (hdb : (y == ("__debug__" : Str)) = false := by decide)
    (he : ∀ i, starEach [e, .Name y pt] (F.X i).env = (false, eval e (F.X i).env) :: starEach [.Name y pt] (F.X i).env := by intro _; rfl) (he2 : ∀ i, starEach [.Name y pt] (F.X i).env = (false, eval (.Name y pt) (F.X i).env) :: starEach [] (F.X i).env := by intro _; rfl) (hpl : ∀ i, (backTo pos (starEach [.Name y pt] (F.X i).env)).any (·.1) = false := by intro _; rfl) :
    RE F (.Call (.Name "isinstance" p) [e, .Name y pt] [] pos) (wIsC C w) := by
  obtain ⟨t, a1, a2⟩ := ha
  refine ⟨_, fun i => pe_callB (r := rIsi F.K) (by rw [← F.hK i]; exact call_isi) (hg i) (hm i) (by rfl) (pa_cons (a1 i) (pa_cons (pe_glob (v := V.ref C) (hg2 i) (hm2 i) rfl hdb) pa_nil (he2 i)) (he i)) (by decide) (by decide) (he i) (hpl i), fun B σ H ρ Z Q Q' E S X hw q => a2 B σ H ρ Z _ _ E S X hw fun v r H1 ρ1 Z1 S1 le1 o1 hw => ?_⟩
  obtain ⟨d, e1, hw⟩ := with1_of hw
  cases d with
  | ins C' fs xs =>
    obtain ⟨rfl, hq⟩ := (show _ ∧ _ from hw)
    obtain ⟨a, dx, kvs, rfl, hz, hh, _, _⟩ := rd_ins S1 (S1.read o1 e1)
    exact ⟨.ref a, .ref C', .ref C', .ref C', true, rfl, .own C', .base (.ins hh hC.cl hC.ha hC.hn hC.tk hC.hm), kit_self, q _ _ _ _ _ (S1.have (.bl true)) le1 hq⟩
  | _ => exact (show False from hw).elim

/-! ### t.index(x), t a told tuple of texts -/
def firstS (z : Str) : Nat → List Str → Option Nat
  | _, [] => none
  | k, y :: ys => if y = z then some k else firstS z (k + 1) ys
theorem firstS_of {z : Str} : ∀ {ys : List Str} {k j : Nat}, firstS z k ys = some j → ∃ i, j = k + i ∧ ys[i]? = some z ∧ ∀ m, m < i → ys[m]? ≠ some z
  | [], _, _, h => by cases h
  | y :: ys, k, j, h => by
    unfold firstS at h
    by_cases e : y = z
    · rw [if_pos e] at h
      cases h
      exact ⟨0, rfl, by rw [e]; rfl, fun m hm => absurd hm (Nat.not_lt_zero m)⟩
    · rw [if_neg e] at h
      obtain ⟨i, rfl, h1, h2⟩ := firstS_of h
      refine ⟨i + 1, by omega, h1, fun m hm q => ?_⟩
      cases m with
      | zero =>
        have q : some y = some z := q
        cases q
        exact e rfl
      | succ m => exact h2 m (by omega) q
def TldV (x : V) (H : Hp) : Prop := ∃ a o vs, x = .ref a ∧ H a = some (.frz o (.tup vs)) ∧ o.dict = none
def rTIx (K : PySem.W.Frag) : V → List V → Hp → VK → Prop := fun x xs H Q => ∃ p, ∃ ys : List Str, ∃ z j, x = .ref p ∧ xs = [.str z] ∧ SqT K H p (ys.map V.str) ∧ ys[j]? = some z ∧ (∀ m, m < j → ys[m]? ≠ some z) ∧ Q (.int (j : Nat)) H
def tTIx (K : PySem.W.Frag) (to : TE) (t : TA) : TE := fun σ H Q => to σ H fun x H1 => TldV x H1 ∧ t σ H1 fun xs H2 => rTIx K x xs H2 Q
theorem pe_tix {X : Cx} {o : Expr} {to : TE} {t : TA} {apos cpos : Pos} (ho : PE X o to) (ha : PA X [e] t)
    (hbase : attributeBase o "index" X.env (eval o X.env) = eval o X.env)
    (hfew : ((backTo cpos (starEach [e] X.env)).all (fun x => !x.1) && (backToKw cpos (keywordEach [] X.env)).all (fun x => x.1.isSome)
      && decide ([e].length + ([] : List Keyword).length + (if ([] : List Keyword).isEmpty then 0 else 1) < 30)) = true)
    (hline : (apos.endLine == cpos.line) = true) (hs : starEach [e] X.env = (false, eval e X.env) :: starEach [] X.env) (hplain : (backTo cpos (starEach [] X.env)).any (·.1) = false) :
    PE X (.Call (.Attribute o "index" apos) [e] [] cpos) (tTIx X.K to t) := by
  refine ⟨fun pins s σ H Q I h => ?_⟩
  refine wpAny_Call_method_late hbase hfew hline rfl (thn (ho.run pins s σ H _ I h) fun v s1 ⟨x, H1, I1, r1, ty, q1⟩ => ?_)
  obtain ⟨a, ob, vs, rfl, hf, hdn⟩ := ty
  cases r1
  obtain ⟨hob, _, its, _, p⟩ := (show ObjOk X.prog X.w H1 s1.heap a (.frz ob (.tup vs)) from I1.hok a _ hf)
  obtain ⟨ob2, g1, g2, _⟩ := id p
  refine ⟨"tuple", "tuple.index", PySem.F.plainAttrs_tuple, PySem.F.slot_tuple_index, PySem.F.type_tuple_index, ⟨ob2, g1, g2⟩, (fun b hb => by cases hb; exact ⟨ob, hob, hdn⟩), ?_⟩
  have hA := ha.run cpos pins s1 σ H1 _ I1 q1
  rw [hs] at hA ⊢
  refine Calls.callWith_builtin (by show (false || (backTo cpos (starEach [] X.env)).any (·.1)) = false; rw [hplain] <;> rfl) (Calls.evalArgs_plain ?_)
  exact thn hA fun us s2 ⟨vs2, H2, I2, r2, q2⟩ => mt_tup_index pins s2 σ H2 (.ref a) vs2 _ us Q I2 rfl r2 q2
@[simp] def kTIx (x : D) : KN := k1 fun y Q => match x with
  | .ttp ds => (match y with
    | .str z => withO (strsOf ds) fun ys => withO (firstS z 0 ys) fun j => Q (.fz (.int (j : Nat)))
    | _ => False)
  | _ => False
@[simp] def tldD : D → Prop
  | .ttp _ => True
  | _ => False
@[simp] def wTIx (o : WE) (as : WRs) : WE := fun E ρ Q => o E ρ fun s ρ1 => match s with
  | .fz d => tldD d ∧ as E ρ1 fun rs ρ2 => withN (looks ρ2 rs) fun ds => kTIx d ds fun s => Q s ρ2
  | _ => False
theorem re_tix {wo : WE} {wa : WRs} {apos cpos : Pos} {o : Expr} (ho : RE F o wo) (ha : RRs F [e] wa)
    (hbase : ∀ i, attributeBase o "index" (F.X i).env (eval o (F.X i).env) = eval o (F.X i).env := by intro _; rfl)
    (hfew : ∀ i, ((backTo cpos (starEach [e] (F.X i).env)).all (fun x => !x.1) && (backToKw cpos (keywordEach [] (F.X i).env)).all (fun x => x.1.isSome)
      && decide ([e].length + ([] : List Keyword).length + (if ([] : List Keyword).isEmpty then 0 else 1) < 30)) = true := by intro _; rfl)
    (hline : (apos.endLine == cpos.line) = true := by rfl) (hs : ∀ i, starEach [e] (F.X i).env = (false, eval e (F.X i).env) :: starEach [] (F.X i).env := by intro _; rfl) (hplain : ∀ i, (backTo cpos (starEach [] (F.X i).env)).any (·.1) = false := by intro _; rfl) :
    RE F (.Call (.Attribute o "index" apos) [e] [] cpos) (wTIx wo wa) := by
  obtain ⟨to, o1, o2⟩ := ho
  obtain ⟨t, a1, a2⟩ := ha
  refine ⟨tTIx F.K to t, fun i => by rw [← F.hK i]; exact pe_tix (o1 i) (a1 i) (hbase i) (hfew i) hline (hs i) (hplain i), LE.of fun B σ H ρ Z Q Q' E S X hw q => o2 B σ H ρ Z _ _ E S X hw fun x s H1 ρ1 Z1 S1 le1 hw => ?_⟩
  cases s with
  | fz d =>
    obtain ⟨td, hw⟩ := (show _ ∧ _ from hw)
    obtain ⟨Z2, le2, S2, rx⟩ := S1.thaw1 (.inl rfl)
    cases d with
    | ttp ds =>
      cases rx with
      | @ttp pa ob vs0 _ hz hdn rl =>
        refine ⟨⟨_, _, _, rfl, S2.sub _ _ hz, hdn⟩, a2 B σ H1 ρ1 Z2 _ _ E S2 X hw fun xs rs H3 ρ3 Z3 S3 le3 ok3 hw => ?_⟩
        obtain ⟨es, e2, hk⟩ := withN_of hw
        obtain ⟨y, rfl, hk⟩ := k1_of hk
        obtain ⟨v, rfl, rv⟩ := pd1 (S3.reads ok3 e2)
        cases y with
        | str z =>
          obtain ⟨ys, e3, hk⟩ := withO_of hk
          obtain ⟨j, e4, hq⟩ := withO_of hk
          obtain ⟨i, e5, h1, h2⟩ := firstS_of e4
          rw [Nat.zero_add] at e5
          subst e5
          have rl := RpL.le le3 _ _ rl
          rw [strsOf_eq e3] at rl
          refine ⟨_, ys, z, j, rfl, by rw [rd_str rv], (.inl (.inr ⟨ob, ?_⟩)), h1, h2, q _ _ _ _ _ (S3.have (.int _)) hq⟩
          rw [← RpL.of_strs rl]
          exact S3.sub _ _ (le3 _ _ hz)
        | _ => exact (show False from hk).elim
    | _ => exact (show False from td).elim
  | _ => exact (show False from hw).elim

/-! ### e.f, a property that gives an attribute -/
@[simp] def fldD : List Str → List D → Str → Option D
  | n :: ns, x :: xs, f => if f = n then some x else fldD ns xs f
  | _, _, _ => none
theorem fld_look {K : PySem.W.Frag} {Z : Hp} {f : Str} : ∀ {kvs : List (Str × V)} {ds : List D} {d : D}, RpL K Z (kvs.map (·.2)) ds → fldD (kvs.map (·.1)) ds f = some d → ∃ v, kvs.lookup f = some v ∧ Rp K Z v d
  | [], _, _, _, h => by cases h
  | (n, v) :: kvs, ds, d, r, h => by
    cases r with
    | cons r1 r2 =>
      have h : (if f = n then some _ else fldD (kvs.map (·.1)) _ f) = some d := h
      by_cases e : f = n
      · rw [if_pos e] at h
        cases h
        exact ⟨v, by rw [List.lookup_cons, e]; simp, r1⟩
      · rw [if_neg e] at h
        obtain ⟨u, h1, h2⟩ := fld_look r2 h
        exact ⟨u, by rw [List.lookup_cons, show (f == n) = false from by simpa using e]; exact h1, h2⟩
/-- as it is told, or as any tuple -/
@[simp] def wProp (C : Nat) (own : Str) (w : WR) : WE := fun E ρ Q => w E ρ fun r ρ1 => with1 (look ρ1 r) fun d => withO (insOf d) fun p => p.1 = C ∧ withO (fldD p.2.1 p.2.2 own) fun v => Q (.fz v) ρ1
@[simp] def asTup : D → D
  | .ttp xs => .tup xs
  | d => d
theorem asTup_rp {K : PySem.W.Frag} {Z : Hp} {v : V} {d : D} (r : Rp K Z v d) : Rp K Z v (asTup d) := by
  cases d with
  | ttp xs => cases r with | ttp h1 _ h2 => exact .tup (.inr ⟨_, h1⟩) h2
  | _ => exact r
@[simp] def wPropT (C : Nat) (own : Str) (w : WR) : WE := fun E ρ Q => w E ρ fun r ρ1 => with1 (look ρ1 r) fun d => withO (insOf d) fun p => p.1 = C ∧ withO (fldD p.2.1 p.2.2 own) fun v => Q (.fz (asTup v)) ρ1
section
variable {C pa g : Addr} {f own : Str} {fd : FuncData} {k : Nat} {w : WR}
theorem re_prop (cl : Cls F.K C) (hp : PropOf F.K C f pa g) (G : ∀ i, FnOk (F.X i).prog (F.X i).w (F.X i).K (F.X i).mg (F.X i).base CX0 k g fd ["self"] (getSp C own)) (hr : ∀ i, Room (k + 1) (F.X i).A) (hb : Binds F.K fd ["self"] []) (ha : RR F e w) (hab : ∀ i, attributeBase e f (F.X i).env (eval e (F.X i).env) = eval e (F.X i).env := by intro _; rfl) : RE F (.Attribute e f pos) (wProp C own w) := by
  obtain ⟨t, a1, a2⟩ := ha
  refine ⟨tProp C (getSp C own) [] E0 t, fun i => pe_prop (a1 i) (by rw [F.hK i]; exact cl) (by rw [F.hK i]; exact hp) (G i) (hr i) (by rw [F.hK i]; exact hb) .nil pass0 (hab i), LE.of fun B σ H ρ Z Q Q' E S X hw q => a2 B σ H ρ Z _ _ E S X hw fun x r H1 ρ1 Z1 S1 le1 o1 hw => ?_⟩
  obtain ⟨d, e1, hw⟩ := with1_of hw
  obtain ⟨⟨C', fs, xs⟩, e3, hC, hw2⟩ := withO_of hw
  have hC : C' = C := hC
  subst hC
  obtain ⟨dv, e2, hq⟩ := withO_of hw2
  obtain ⟨a, dx, kvs, rfl, hz, hh, en, rl⟩ := rd_insOf S1 (S1.read o1 e1) e3
  obtain ⟨v, h1, rv⟩ := fld_look rl (by rw [en]; exact e2)
  exact ⟨a, dx, kvs, rfl, hh, a, dx, kvs, v, rfl, hh, h1, q _ _ _ _ _ (S1.have rv) hq⟩
theorem re_propT (cl : Cls F.K C) (hp : PropOf F.K C f pa g) (G : ∀ i, FnOk (F.X i).prog (F.X i).w (F.X i).K (F.X i).mg (F.X i).base CX0 k g fd ["self"] (getSp C own)) (hr : ∀ i, Room (k + 1) (F.X i).A) (hb : Binds F.K fd ["self"] []) (ha : RR F e w) (hab : ∀ i, attributeBase e f (F.X i).env (eval e (F.X i).env) = eval e (F.X i).env := by intro _; rfl) : RE F (.Attribute e f pos) (wPropT C own w) := by
  obtain ⟨t, a1, a2⟩ := ha
  refine ⟨tProp C (getSp C own) [] E0 t, fun i => pe_prop (a1 i) (by rw [F.hK i]; exact cl) (by rw [F.hK i]; exact hp) (G i) (hr i) (by rw [F.hK i]; exact hb) .nil pass0 (hab i), LE.of fun B σ H ρ Z Q Q' E S X hw q => a2 B σ H ρ Z _ _ E S X hw fun x r H1 ρ1 Z1 S1 le1 o1 hw => ?_⟩
  obtain ⟨d, e1, hw⟩ := with1_of hw
  obtain ⟨⟨C', fs, xs⟩, e3, hC, hw2⟩ := withO_of hw
  have hC : C' = C := hC
  subst hC
  obtain ⟨dv, e2, hq⟩ := withO_of hw2
  obtain ⟨a, dx, kvs, rfl, hz, hh, en, rl⟩ := rd_insOf S1 (S1.read o1 e1) e3
  obtain ⟨v, h1, rv⟩ := fld_look rl (by rw [en]; exact e2)
  exact ⟨a, dx, kvs, rfl, hh, a, dx, kvs, v, rfl, hh, h1, q _ _ _ _ _ (S1.have (asTup_rp rv)) hq⟩
end

/-! ### tuple(xs), told: at the level of HandS -/
theorem call_told {X : Cx} : CallR X (.type "tuple") (fun xs H Q => ∃ p ys, xs = [V.ref p] ∧ SqL X.K H p ys ∧ ∀ l o, H l = none → o.dict = none → Q (.ref l) (upd H l (.frz o (.tup ys)))) := by
  rintro pins s σ H xs us Q I r ⟨p, ys, rfl, hq, q⟩
  rw [Vals.ref1 r]
  obtain ⟨its, r', pl, hz⟩ := I.list hq
  have hlen := r'.length
  refine call_tuple_list pl.isList (fun h' kp => ?_) (by simp only [List.size_toArray] <;> omega)
  have I1 : Inv X pins σ H { s with heap := h' } := I.kept (t' := s.toks) kp
  have I2 : Inv X pins σ (upd H h'.objs.size (.frz { cls := .type "tuple", data := .seq its.toArray } (.tup ys))) { s with heap := h'.push { cls := .type "tuple", data := .seq its.toArray } } :=
    I1.laid (t' := s.toks) (fun b o e => Heap.get?_push_of_some _ e) (Nat.le_refl _) (show ObjOk X.prog X.w _ _ _ (.frz _ (.tup ys)) from ⟨Heap.get?_push_size _ rfl, hz, its, r', IsTup.new _ _⟩)
  exact ⟨.ref h'.objs.size, _, I2, rfl, q _ _ (I1.hok.fresh (Nat.le_refl _)) rfl⟩
end
end Pu

set_option Elab.async false
set_option linter.all false
set_option maxRecDepth 100000
/-! Pu, dict(zip(xs, ys)). -/
namespace Pu
open PySem L2 PySem.Spec PyProof.Rows

def rDictZip (K : PySem.W.Frag) : List V → Hp → VK → Prop := fun vs H Q => ∃ (a b : Addr) (ks : List Key) (ys : List V), vs = [V.ref a, V.ref b] ∧ SqL K H a (ks.map kV) ∧ SqL K H b ys ∧ ∀ p, H p = none → Q (.ref p) (upd H p (.dK (mergeK [] (ks.zip ys))))
theorem key_is {P : Program} {w : World} {k : Key} {u : Value} (r : L2.RelV (kV k) u) : (mixKind P w).is k u = true := by
  cases k with
  | inl i => obtain ⟨t, rfl⟩ := r; simp [mixKind, keyIs, Value.isInt]
  | inr x => obtain ⟨t, rfl⟩ := r; simp [mixKind, keyIs, Value.isStrOf]
theorem zip_kv : ∀ {ks : List Key} {ys : List V} {us : List Value}, Vals ys us → KV (ks.zip ys) (ks.zip us)
  | [], _, _, _ => by rw [List.zip_nil_left, List.zip_nil_left]; exact .nil
  | _ :: _, _, _, .nil => by rw [List.zip_nil_right, List.zip_nil_right]; exact .nil
  | k :: ks, _, _, .cons r t => .cons ⟨rfl, r⟩ (zip_kv t)
theorem pe_dictZip {X : Cx} {e e2 : Expr} {t : TA} {p p2 q pos : Pos} (hc : X.calm = true) (hg : Gl X "dict") (hm : X.mg "dict" = none) (hg2 : Gl X "zip") (hm2 : X.mg "zip" = none) (ha : PA X [e, e2] t)
    (hs : starEach [e, e2] X.env = (false, eval e X.env) :: starEach [e2] X.env) (hpl : (backTo q (starEach [e2] X.env)).any (·.1) = false)
    (hs0 : starEach [.Call (.Name "zip" p2) [e, e2] [] q] X.env = (false, eval (.Call (.Name "zip" p2) [e, e2] [] q) X.env) :: starEach [] X.env) :
    PE X (.Call (.Name "dict" p) [.Call (.Name "zip" p2) [e, e2] [] q] [] pos) (tCB (rDictZip X.K) t) := by
  refine ⟨fun pins s σ H Q I h => ?_⟩
  refine Call_ (ld_blt I hg hm PyProof.Rows.boot_dict ?_)
  refine PyProof.Rows.callWith_type1 (PyProof.Rows.args_cons ?_ hs0) hs0 rfl
  refine Call_ (ld_blt I hg2 hm2 PyProof.Rows.boot_zip ?_)
  refine PyProof.Rows.callWith_type1 (thn (ha.run q pins s σ H _ I h) fun us s1 ⟨vs, H1, I1, r1, q1⟩ => ?_) hs hpl
  obtain ⟨a, b, ks, ys, rfl, hqx, hqy, qq⟩ := q1
  obtain ⟨u1, u2, rfl, r1, r2⟩ := vals2 r1
  cases r1
  cases r2
  obtain ⟨its, rv, pl1, hz1⟩ := I1.list hqx
  obtain ⟨its2, rv2, pl2, hz2⟩ := I1.list hqy
  have la : a < s1.heap.objs.size := pl1.lt
  have lb : b < s1.heap.objs.size := pl2.lt
  refine call_zip_2 pl1.isList pl2.isList fun h' hz hTI hTO h1 h2 hsz hk => PyProof.Rows.args_nil ?_
  have l1 : ks.length = its.length := by rw [← rv.length, List.length_map]
  have rel : KV (ks.zip ys) (ks.zip its2) := zip_kv rv2
  have lz : (ks.zip its2).length = min its.toArray.size its2.toArray.size := by rw [List.length_zip, List.size_toArray, List.size_toArray, l1]
  have hz' : ys.length = its2.length := rv2.length
  refine PySem.call_dict_pairs (knd := mixKind X.prog X.w) (kvs := ks.zip its2) (s := { s1 with heap := h' }) (PairArg.zip (s1.heap.objs.size + 4) (s1.heap.objs.size + 2) (s1.heap.objs.size + 3) s1.heap.objs.size (s1.heap.objs.size + 1) a b (PySem.W.ktu_apart s1.heap.objs.size a b la lb) its.toArray its2.toArray) (I1.ok.hd hc)
    ⟨hz, hTI, ⟨_, _, hTO⟩, h1, h2, pl1.isList.at fun o e => hk _ o e, pl2.isList.at fun o e => hk _ o e⟩ ⟨lz, fun i key v hr => ?_⟩ (by have := l1; have h3 : (ks.map kV).length = ks.length := List.length_map _; simp only [List.size_toArray]; omega) fun h2' tk hd hkeep => ?_
  · obtain ⟨e1, e2⟩ := hr
    have e1 : its[i]? = some key := by simpa using e1
    have e2 : its2[i]? = some v := by simpa using e2
    obtain ⟨x, ex, rx⟩ : ∃ x, (ks.map kV)[i]? = some x ∧ L2.RelV x key := pd_get rv e1
    rw [List.getElem?_map] at ex
    cases ek : ks[i]? with
    | none => rw [ek] at ex; cases ex
    | some k =>
      rw [ek] at ex
      cases ex
      exact ⟨k, by rw [List.getElem?_zip_eq_some]; exact ⟨ek, e2⟩, key_is rx⟩
  · have big : s1.heap.objs.size ≤ h'.objs.size := by rw [hsz]; exact Nat.le_add_right _ _
    have kp : ∀ c o, s1.heap.get? c = some o → h2'.get? c = some o := fun c o hco => by
      have lt := Heap.lt_size hco
      refine hkeep c o (fun hm => ?_) (hk c o hco)
      have e' : c = s1.heap.objs.size + 4 ∨ c = s1.heap.objs.size + 3 ∨ c = s1.heap.objs.size ∨ c = s1.heap.objs.size + 1 := by simpa using hm
      have lt : (c : Nat) < s1.heap.objs.size := lt
      rcases e' with e | e | e | e
      · exact absurd lt (by rw [e]; exact Nat.not_lt.mpr (Nat.le_add_right _ _))
      · exact absurd lt (by rw [e]; exact Nat.not_lt.mpr (Nat.le_add_right _ _))
      · exact absurd lt (by rw [e]; exact Nat.lt_irrefl _)
      · exact absurd lt (by rw [e]; exact Nat.not_lt.mpr (Nat.le_add_right _ _))
    have hmm : (h'.objs.size == sysModules) = false := beq_eq_false_iff_ne.mpr (Nat.ne_of_gt (Nat.lt_of_lt_of_le I1.big big))
    have hlen : (mergeK [] (ks.zip ys)).length ≤ sizeLine := by
      refine Nat.le_trans (length_mergeK _ []) ?_
      rw [List.length_nil, Nat.zero_add, List.length_zip]
      have h3 : (ks.map kV).length = ks.length := List.length_map _
      omega
    exact ⟨.ref h'.objs.size, upd H1 h'.objs.size (.dK (mergeK [] (ks.zip ys))), I1.laid (t' := tk) kp big (show ObjOk X.prog X.w _ _ _ (.dK (mergeK [] (ks.zip ys))) from ⟨hlen, hmm, merged [] (ks.zip its2), KV.merge rel .nil, hd⟩), rfl, qq _ (I1.hok.fresh big)⟩
section
variable {F : Fm} {e a b : Expr} {pos p : Pos}
def keysOf : List D → Option (List Ky)
  | [] => some []
  | d :: r => match keyD d with
    | none => none
    | some k => match keysOf r with
      | some ks => some (k :: ks)
      | none => none
theorem keys_v {K : PySem.W.Frag} {Z H : Hp} : ∀ {ds : List D} {vs : List V} {ks : List Ky}, RpL K Z vs ds → keysOf ds = some ks → vs = ks.map kV
  | [], _, ks, r, e => by cases r; cases e; rfl
  | d :: ds, _, ks, r, e => by
    cases r with
    | cons r1 r2 =>
      unfold keysOf at e
      cases e1 : keyD d with
      | none => rw [e1] at e; cases e
      | some k =>
        cases e2 : keysOf ds with
        | none => rw [e1, e2] at e; cases e
        | some ks' =>
          rw [e1, e2] at e
          cases e
          rw [keyD_v (K := K) (Z := Z) (H := H) (.inl r1) e1, keys_v (H := H) r2 e2]
          rfl
@[simp] def kDictZip : KN := k2 fun x y Q => match x with
  | .lst xs => (match y with
    | .lst ys => withO (keysOf xs) fun ks => Q (.ow (mergeD (.dic [] []) (ks.zip ys)))
    | _ => False)
  | _ => False
theorem re_dictZip {pz q : Pos} {wa : WRs} (hm : ∀ i, (F.X i).mg "dict" = none) (hm2 : ∀ i, (F.X i).mg "zip" = none) (ha : RRs F [a, b] wa) (hg : ∀ i, Gl (F.X i) "dict" := by intro _; rfl) (hg2 : ∀ i, Gl (F.X i) "zip" := by intro _; rfl)
    (hs : ∀ i, starEach [a, b] (F.X i).env = (false, eval a (F.X i).env) :: starEach [b] (F.X i).env := by intro _; rfl) (hpl : ∀ i, (backTo q (starEach [b] (F.X i).env)).any (·.1) = false := by intro _; rfl)
    (hs0 : ∀ i, starEach [.Call (.Name "zip" pz) [a, b] [] q] (F.X i).env = (false, eval (.Call (.Name "zip" pz) [a, b] [] q) (F.X i).env) :: starEach [] (F.X i).env := by intro _; rfl) :
    RE F (.Call (.Name "dict" p) [.Call (.Name "zip" pz) [a, b] [] q] [] pos) (wB kDictZip wa) := by
  obtain ⟨t, a1, a2⟩ := ha
  refine ⟨tCB (rDictZip F.K) t, fun i => by rw [← F.hK i]; exact pe_dictZip (F.calm i) (hg i) (hm i) (hg2 i) (hm2 i) (a1 i) (hs i) (hpl i) (hs0 i), LRs_call (fun B σ H ρ Z xs ds Q Q' S rx hk q' => ?_) a2⟩
  obtain ⟨d, e', rfl, hk⟩ := k2_of hk
  obtain ⟨x, y, rfl, rx1, ry1⟩ := pd2 rx
  cases d with
  | lst ds =>
    cases e' with
    | lst es =>
      obtain ⟨ks, ek, hq⟩ := withO_of (show withO (keysOf ds) (fun ks => Q' (.ow (mergeD (.dic [] []) (ks.zip es)))) from hk)
      obtain ⟨pa, vs, rfl, ha, ra⟩ := rd_lst S rx1
      obtain ⟨pb, us, rfl, hb, rb⟩ := rd_lst S ry1
      have ev := keys_v (H := H) ra ek
      subst ev
      refine ⟨pa, pb, ks, us, rfl, .of ha, .of hb, fun l hl => q' _ _ _ _ (S.alloc1 hl (merge_rp (kvs := []) (xs := []) ?_ .nil)) hq⟩
      have : ∀ {ks : List Ky} {us : List V} {es : List D}, RpL F.K Z us es → Paired (fun (p : Key × V) (q : Ky × D) => p.1 = q.1 ∧ Rp F.K Z p.2 q.2) (ks.zip us) (ks.zip es) := by
        intro ks
        induction ks with
        | nil => intro us es _; simp; exact .nil
        | cons k ks ih =>
          intro us es r
          cases r with
          | nil => simp; exact .nil
          | cons r1 r2 => exact .cons ⟨rfl, r1⟩ (ih r2)
      exact this rb
    | _ => exact (show False from hk).elim
  | _ => exact (show False from hk).elim
end
end Pu

set_option Elab.async false
set_option linter.all false
set_option maxRecDepth 100000
/-! Pu, lists of lists of our own. -/
namespace Pu
open PySem L2 PySem.Spec PyProof.Rows

theorem pd_impL {α β : Type} {F G : α → β → Prop} : ∀ {l : List α} {r : List β}, Paired F l r → (∀ a b, a ∈ l → F a b → G a b) → Paired G l r
  | _, _, .nil, _ => .nil
  | _, _, .cons h t, k => .cons (k _ _ (List.mem_cons_self ..) h) (pd_impL t fun a b m => k a b (List.mem_cons_of_mem _ m))
section
variable {K : PySem.W.Frag} {B : Bs} {σ : L2.St} {H H' : Hp} {ρ : En} {Z Z' : Hp}
/-- whatever is at hand is held while something else runs -/
theorem St1.holdA {v : V} {s : Sl} (S : St1 K B σ H ρ Z [(v, s)]) :
    ∃ B' : Bs, St1 K B' σ H ρ Z [] ∧ (∀ (σ' : L2.St) (H' : Hp) (ρ' : En) (Z' : Hp) (tmp : List (V × Sl)), St1 K B' σ' H' ρ' Z' tmp → St1 K B σ' H' ρ' Z' ((v, s) :: tmp) ∧ Le Z Z') ∧ ∀ a dss, v = .ref a → s = .oo dss → B'.Fx a = H a := by
  obtain ⟨fps, h1, h2⟩ := S.rp
  obtain ⟨f1, f2, rfl, p1, p2⟩ := pd_split h1
  obtain ⟨g, rfl, q⟩ := pd_one p2
  have ow := q.own
  have S0 := S.drop.rebase
  generalize hF : (fun b => if b ∈ g then H b else B.Fx b : Hp) = F'
  have Fa : ∀ {b : Addr}, b ∈ g → F' b = H b := fun m => by rw [← hF]; exact if_pos m
  have Fb : ∀ {b : Addr}, b ∉ g → F' b = B.Fx b := fun m => by rw [← hF]; exact if_neg m
  simp only [List.flatten_append, List.flatten_cons, List.flatten_nil, List.append_nil] at h2
  obtain ⟨n1, ng, dd⟩ := nodup_app h2
  refine ⟨⟨F', Z, B.H0, B.io⟩, ⟨S.len, S.sub, fun _ _ e => .inl e, fun _ _ e => e, fun b u eb => ?_, S.dm, ?_⟩, fun σ' H' ρ' Z' tmp S' => ?_, fun a dss ea es => ?_⟩
  · have eb : F' b = some u := eb
    by_cases m : b ∈ g
    · rw [Fa m] at eb; exact eb
    · rw [Fb m] at eb; exact S.fx _ _ eb
  · simp only [tmps, List.map_nil, List.append_nil]
    refine ⟨f1, Mv.pd (B := B) (B' := ⟨F', Z, B.H0, B.io⟩) (ex := g) ⟨fun _ _ e => e, fun _ _ _ _ z _ => z, fun b _ _ nb _ f => (Fb nb).trans f, fun _ _ _ _ z => z, fun _ _ e _ _ _ => e, rfl⟩ p1 (fun gg hg b hb m => ?_), n1⟩
    exact dd b (List.mem_flatten.mpr ⟨gg, hg, hb⟩) m
  · have k : Le Z Z' := S'.zo
    have hH : ∀ a ∈ g, H' a = H a := fun a m => by
      obtain ⟨_, _, o, e⟩ := ow a m
      rw [e]
      exact S'.fx a o ((Fa m).trans e)
    have hZ : ∀ a ∈ g, Z' a = none := fun a m => by
      obtain ⟨z, _, o, e⟩ := ow a m
      cases e2 : Z' a with
      | none => rfl
      | some u =>
        rcases S'.zn a u e2 with q | ⟨q, _⟩
        · have q : Z a = some u := q
          rw [z] at q; cases q
        · have q : F' a = none := q
          rw [Fa m, e] at q; cases q
    have back : ∀ {b : Addr}, F' b = none → B.Fx b = none := fun {b} q => by
      by_cases m : b ∈ g
      · exact (ow b m).2.1
      · rw [Fb m] at q; exact q
    refine ⟨⟨S'.len, S'.sub, fun b u e => ?_, S.zo.trans' k, fun b u e => ?_, S'.dm, ?_⟩, k⟩
    · rcases S'.zn b u e with q | ⟨q, q2⟩
      · exact S.zn b u q
      · exact .inr ⟨back q, q2⟩
    · by_cases m : b ∈ g
      · have := (ow b m).2.1
        rw [this] at e; cases e
      · exact S'.fx b u ((Fb m).trans e)
    · obtain ⟨fps, k1, k2⟩ := S'.rp
      obtain ⟨a1, a2, rfl, m1, m2⟩ := pd_split k1
      have mv : Mv ⟨F', Z, B.H0, B.io⟩ B Z' Z' H' H' [] := ⟨fun _ _ e => e, fun _ _ _ _ z _ => z, fun b _ _ _ _ f' => back f', fun _ _ _ _ z => z, fun _ _ e _ _ _ => e, rfl⟩
      have q' : SlR K B Z' H' (some v) g s := q.move rfl k (fun a m _ => hZ a m) (fun a m f => f) (fun a m z => z) hH
      refine ⟨a1 ++ g :: a2, pd_app (mv.pd m1 fun _ _ _ _ m => by cases m) (.cons q' (mv.pd m2 fun _ _ _ _ m => by cases m)), ?_⟩
      rw [List.flatten_append] at k2
      obtain ⟨n3, n4, d3⟩ := nodup_app k2
      have out : ∀ a ∈ g, a ∉ a1.flatten ∧ a ∉ a2.flatten := fun a m => by
        have no : ∀ {fs : List (List Addr)} {es : List Ent}, Paired (fun (e : Ent) fp => SlR K ⟨F', Z, B.H0, B.io⟩ Z' H' e.1 fp e.2) es fs → a ∉ fs.flatten := fun pp hm => by
          obtain ⟨_, q, _⟩ := pd_own pp a hm
          have q : F' a = none := q
          obtain ⟨_, _, o, e⟩ := ow a m
          rw [Fa m, e] at q; cases q
        exact ⟨no m1, no m2⟩
      have e5 : (a1 ++ g :: a2).flatten = a1.flatten ++ (g ++ a2.flatten) := by simp
      rw [e5]
      refine List.nodup_append.mpr ⟨n3, List.nodup_append.mpr ⟨ng, n4, fun a ha b hb ab => (out a ha).2 (ab ▸ hb)⟩, fun a ha b hb ab => ?_⟩
      subst ab
      rcases List.mem_append.mp hb with hb | hb
      · exact (out a hb).1 ha
      · exact d3 a ha hb
  · subst es
    obtain ⟨a', as, ev, rfl, _⟩ := q
    have ev : some v = some (V.ref a') := ev
    rw [ea] at ev
    cases ev
    exact Fa (List.mem_cons_self ..)
/-- what stands in a slot is taken out -/
theorem St1.take {i : Nat} {s : Sl} {v : V} (S : St1 K B σ H ρ Z []) (e : ρ[i]? = some s) (ev : σ[i]? = some (some v)) : St1 K B σ H (ρ.set i .un) Z [(v, s)] := by
  obtain ⟨u, l, r, e1, e2, e3⟩ := zip_focus S.len e
  rw [ev] at e1
  cases e1
  refine ⟨by rw [List.length_set]; exact S.len, S.sub, S.zn, S.zo, S.fx, S.dm, ?_⟩
  have R := S.rp
  simp only [tmps, List.map_nil, List.append_nil, e2] at R
  have e4 := e3 (some v) .un
  rw [set_same ev] at e4
  rw [e4]
  obtain ⟨fps, p, nd⟩ := R
  obtain ⟨f1, f2, rfl, p1, p2⟩ := pd_split p
  cases p2 with
  | cons q p2 =>
    rename_i g f2
    refine ⟨f1 ++ [] :: (f2 ++ [g]), ?_, ?_⟩
    · show Paired _ ((l ++ (some v, Sl.un) :: r) ++ [(some v, s)]) _
      rw [List.append_assoc]
      exact pd_app p1 (.cons rfl (pd_app p2 (.cons q .nil)))
    · have e5 : (f1 ++ [] :: (f2 ++ [g])).flatten = f1.flatten ++ (f2.flatten ++ g) := by simp
      have e6 : (f1 ++ g :: f2).flatten = f1.flatten ++ (g ++ f2.flatten) := by simp
      rw [e5]
      rw [e6] at nd
      have pm : (f1.flatten ++ (g ++ f2.flatten)).Perm (f1.flatten ++ (f2.flatten ++ g)) := List.Perm.append_left _ List.perm_append_comm
      exact pm.nodup_iff.mp nd
theorem St1.putBack {i : Nat} {s : Sl} {v : V} (S : St1 K B σ H ρ Z [(v, s)]) (ev : σ[i]? = some (some v)) : St1 K B σ H (ρ.set i s) Z [] := by
  have := S.store (i := i)
  rw [set_same ev] at this
  exact this
/-- the lists of a list of lists -/
theorem St1.oo {v : V} {dss : List (List D)} (S : St1 K B σ H ρ Z [(v, .oo dss)]) : ∃ (a : Addr) (as : List Addr), v = .ref a ∧ H a = some (.lst (as.map .ref)) ∧ as.length = dss.length ∧
    (∀ (n : Nat) ds, dss[n]? = some ds → ∃ b vs, as[n]? = some b ∧ H b = some (.lst vs) ∧ RpL K Z vs ds ∧ ∀ vs' ds', RpL K Z vs' ds' → St1 K B σ (upd H b (.lst vs')) ρ Z [(v, .oo (dss.set n ds'))]) := by
  obtain ⟨fps, h1, h2⟩ := S.rp
  obtain ⟨f1, f2, rfl, p1, p2⟩ := pd_split h1
  obtain ⟨g, rfl, q⟩ := pd_one p2
  obtain ⟨a, as, ev, rfl, hz, ha, hp⟩ := q
  cases ev
  simp only [List.flatten_append, List.flatten_cons, List.flatten_nil, List.append_nil] at h2
  obtain ⟨n1, ng, dd⟩ := nodup_app h2
  refine ⟨a, as, rfl, ha, pd_len hp, fun n ds e => ?_⟩
  obtain ⟨b, eb, vs, hb, rl⟩ := pd_get hp e
  refine ⟨b, vs, eb, hb, rl, fun vs' ds' rl' => ?_⟩
  have mb : b ∈ a :: as := List.mem_cons_of_mem _ (List.mem_of_getElem? eb)
  obtain ⟨zb, fb, h0b⟩ := hz b mb
  refine ⟨S.len, fun c u ec => upd_some (S.sub _ _ ec) (ne_of_none ec zb), S.zn, S.zo, fun c u ec => upd_some (S.fx _ _ ec) (ne_of_none ec fb), fun c ec => ?_, ?_⟩
  · by_cases cb : c = b
    · rw [cb, upd_same]; simp
    · rw [upd_ne cb]; exact S.dm c ec
  · have nab : a ≠ b := fun e => (List.nodup_cons.mp ng).1 (e ▸ List.mem_of_getElem? eb)
    have inner : ∀ {as : List Addr} {dss : List (List D)} {n : Nat}, as.Nodup → as[n]? = some b → Paired (fun b xs => ∃ vs, H b = some (.lst vs) ∧ RpL K Z vs xs) as dss → Paired (fun c xs => ∃ vs, upd H b (.lst vs') c = some (.lst vs) ∧ RpL K Z vs xs) as (dss.set n ds') := by
      intro as dss n nd e hp
      induction hp generalizing n with
      | nil => cases e
      | cons h t ih =>
        rename_i c xs cs xss
        have nd := List.nodup_cons.mp nd
        cases n with
        | zero =>
          have e : some c = some b := e
          cases e
          exact .cons ⟨vs', upd_same, rl'⟩ (pd_impL t fun x y m ⟨us, hx, rx⟩ => ⟨us, by rw [upd_ne (show x ≠ b from fun e2 => nd.1 (by rw [← e2]; exact m))]; exact hx, rx⟩)
        | succ n =>
          obtain ⟨us, hx, rx⟩ := h
          have nc : c ≠ b := fun e2 => nd.1 (e2 ▸ List.mem_of_getElem? (by simpa using e))
          exact .cons ⟨us, by rw [upd_ne nc]; exact hx, rx⟩ (ih nd.2 (by simpa using e))
    refine ⟨f1 ++ [a :: as], pd_app (Mv.pd (B := B) (B' := B) (ex := a :: as) ⟨fun _ _ e => e, fun _ _ _ _ z _ => z, fun _ _ _ _ _ f => f, fun _ _ _ _ z => z, fun c u ec nc _ _ => upd_some ec (fun e => nc (e ▸ mb)), rfl⟩ p1 (fun gg hg c hc m => dd c (List.mem_flatten.mpr ⟨gg, hg, hc⟩) m)) (.cons ⟨a, as, rfl, rfl, hz, by rw [upd_ne nab]; exact ha, inner (List.nodup_cons.mp ng).2 eb hp⟩ .nil), by simpa using h2⟩
/-- one more own list in a list of lists -/
theorem St1.push {p q : Addr} {dss : List (List D)} {ds : List D} {as : List Addr} {tmp : List (V × Sl)} (S : St1 K B σ H ρ Z [(.ref p, .oo dss), (.ref q, .ow (.lst ds))]) (hp : H p = some (.lst (as.map .ref))) (hl : as.length = dss.length) : St1 K B σ (upd H p (.lst ((as ++ [q]).map .ref))) ρ Z [(.ref p, .oo (dss ++ [ds]))] := by
  obtain ⟨fps, h1, h2⟩ := S.rp
  obtain ⟨f1, f2, rfl, p1, p2⟩ := pd_split h1
  cases p2 with
  | cons q1 p2 =>
    obtain ⟨g2, rfl, q2⟩ := pd_one p2
    rename_i g1
    obtain ⟨a, as', ev, rfl, hz, ha, hpd⟩ := q1
    obtain ⟨b, o, eb, rfl, zb, fb, h0b, hb, ro⟩ := q2
    have ev : some (V.ref p) = some (V.ref a) := ev
    have eb : some (V.ref q) = some (V.ref b) := eb
    cases ev
    cases eb
    rw [hp] at ha
    have eas : as.map V.ref = as'.map V.ref := by
      have := Option.some.inj ha
      injection this
    have eas : as = as' := by
      have inj : ∀ {l m : List Addr}, l.map V.ref = m.map V.ref → l = m := by
        intro l
        induction l with
        | nil => intro m e; cases m with
          | nil => rfl
          | cons _ _ => cases e
        | cons x l ih =>
          intro m e
          cases m with
          | nil => cases e
          | cons y m =>
            injection e with e1 e2
            injection e1 with e1
            rw [e1, ih e2]
      exact inj eas
    subst eas
    cases o with
    | lst vs =>
      have ro : RpL K Z vs ds := ro
      have e0 : (f1 ++ [p :: as, [q]]).flatten = f1.flatten ++ ((p :: as) ++ [q]) := by simp
      rw [e0] at h2
      obtain ⟨n1, n2, dd⟩ := nodup_app h2
      obtain ⟨n3, _, d3⟩ := nodup_app n2
      obtain ⟨zp, fp, h0p⟩ := hz p (List.mem_cons_self ..)
      have npq : q ≠ p := fun e => d3 p (List.mem_cons_self ..) (by simp [e])
      have nin : ∀ c ∈ as, c ≠ p := fun c m e => (List.nodup_cons.mp n3).1 (e ▸ m)
      refine ⟨S.len, fun c u ec => upd_some (S.sub _ _ ec) (ne_of_none ec zp), S.zn, S.zo, fun c u ec => upd_some (S.fx _ _ ec) (ne_of_none ec fp), fun c ec => ?_, ?_⟩
      · by_cases cb : c = p
        · rw [cb, upd_same]; simp
        · rw [upd_ne cb]; exact S.dm c ec
      · refine ⟨f1 ++ [p :: (as ++ [q])], pd_app (Mv.pd (B := B) (B' := B) (ex := p :: as) ⟨fun _ _ e => e, fun _ _ _ _ z _ => z, fun _ _ _ _ _ f => f, fun _ _ _ _ z => z, fun c u ec nc _ _ => upd_some ec (fun e => nc (e ▸ List.mem_cons_self ..)), rfl⟩ p1 (fun gg hg c hc m => dd c (List.mem_flatten.mpr ⟨gg, hg, hc⟩) (List.mem_append_left _ m))) (.cons ⟨p, as ++ [q], rfl, rfl, fun c m => ?_, upd_same, pd_app (pd_impL hpd fun c xs m ⟨us, hx, rx⟩ => ⟨us, by rw [upd_ne (nin c m)]; exact hx, rx⟩) (.cons ⟨vs, by rw [upd_ne npq]; exact hb, ro⟩ .nil)⟩ .nil), ?_⟩
        · rcases List.mem_cons.mp m with e | m
          · rw [e]; exact hz p (List.mem_cons_self ..)
          · rcases List.mem_append.mp m with m | m
            · exact hz c (List.mem_cons_of_mem _ m)
            · rw [List.mem_singleton.mp m]; exact ⟨zb, fb, h0b⟩
        · simpa using h2
    | _ => exact (show False from ro).elim
/-- an own list at hand, empty, is a list of no lists -/
theorem St1.none_oo {p : Addr} (S : St1 K B σ H ρ Z [(.ref p, .ow (.lst []))]) : St1 K B σ H ρ Z [(.ref p, .oo [])] := by
  obtain ⟨fps, h1, h2⟩ := S.rp
  obtain ⟨f1, f2, rfl, p1, p2⟩ := pd_split h1
  obtain ⟨g, rfl, q⟩ := pd_one p2
  obtain ⟨a, o, ev, rfl, z, f, h0, ha, ro⟩ := q
  refine ⟨S.len, S.sub, S.zn, S.zo, S.fx, S.dm, f1 ++ [[a]], pd_app p1 (.cons ⟨a, [], ev, rfl, fun b m => by rw [List.mem_singleton.mp m]; exact ⟨z, f, h0⟩, ?_, .nil⟩ .nil), h2⟩
  cases o with
  | lst vs =>
    have ro : RpL K Z vs [] := ro
    cases ro
    exact ha
  | _ => exact (show False from ro).elim
end

section
variable {K : PySem.W.Frag} {B : Bs} {σ : L2.St} {H : Hp} {ρ : En} {Z : Hp}
theorem tmp_first {v u : V} {s t : Sl} (S : St1 K B σ H ρ Z [(v, s), (u, t)]) : St1 K B σ H ρ Z [(v, s)] := by
  refine ⟨S.len, S.sub, S.zn, S.zo, S.fx, S.dm, ?_⟩
  obtain ⟨fps, h1, h2⟩ := S.rp
  obtain ⟨f1, f2, rfl, p1, p2⟩ := pd_split h1
  cases p2 with
  | cons q1 p2 =>
    obtain ⟨g2, rfl, q2⟩ := pd_one p2
    rename_i g1
    refine ⟨f1 ++ [g1], pd_app p1 (.cons q1 .nil), ?_⟩
    have e0 : (f1 ++ [g1, g2]).flatten = (f1 ++ [g1]).flatten ++ g2 := by simp
    rw [e0] at h2
    exact (nodup_app h2).1
theorem own_ref {v u : V} {s : Sl} {d : D} (S : St1 K B σ H ρ Z [(v, s), (u, .ow d)]) : ∃ q, u = .ref q := by
  obtain ⟨fps, h1, h2⟩ := S.rp
  obtain ⟨f1, f2, rfl, p1, p2⟩ := pd_split h1
  cases p2 with
  | cons q1 p2 =>
    obtain ⟨g2, rfl, q2⟩ := pd_one p2
    obtain ⟨a, o, e, _⟩ := q2
    have e : some u = some (V.ref a) := e
    cases e
    exact ⟨a, rfl⟩
end

/-! ### [own list for ..] -/
section
variable {F : Fm} {e a b : Expr} {pos p : Pos} {x : Str}
def wLcO (wi : WI) (g : WG) (tt : WT) (te : WE) (vs : List Nat) : WE := fun E ρ Q => wi E ρ fun items ρ1 => ∃ W : Nat → List (List D) → En → Prop, W 0 [] (wipeE ρ1 vs) ∧
  (∀ i x acc ρ, items[i]? = some x → W i acc ρ → g (.fz x) ρ fun ρ2 => tt noEX ρ2 fun b ρ3 =>
    if b = true then te noEX ρ3 fun s ρ4 => match s with
      | .ow (.lst d) => acc.length < sizeLine ∧ W (i + 1) (acc ++ [d]) (wipeE ρ4 vs)
      | _ => False
    else W (i + 1) acc (wipeE ρ3 vs)) ∧
  ∀ acc ρ, W items.length acc ρ → Q (.oo acc) (backE ρ1 ρ vs)
theorem lcO_ok {scope : Scope} {wi : WI} {g : WG} {wt : WT} {we : WE} {vs : List Nat} {ti : TI} {tg : TG} {tt : TT} {te : TE} (hi : LI F ti wi) (hg : LG (F.blk scope) tg g vs) (ht : LT (F.blk scope) tt wt) (he : LE (F.blk scope) te we) : LE F (tLc ti tg tt te vs) (wLcO wi g wt we vs) := by
  refine LE.of fun B σ H ρ Z Q Q' E S X hw q => hi B σ H ρ Z _ _ E S X hw fun J items H1 ρ1 Z1 S1 le1 it ⟨W, w0, ws, wz⟩ Dd hD => ?_
  obtain ⟨B', S', back⟩ := S1.base
  have SD : St1 F.K B' σ (upd H1 Dd (.lst [])) ρ1 Z1 [(.ref Dd, .oo [])] := (S'.alloc1 (o := .lst []) (d := .lst []) hD .nil).none_oo
  refine ⟨fun i m H => ∃ acc ρ Z, St1 F.K B' (wipe σ vs) H ρ Z [(.ref Dd, .oo acc)] ∧ i ≤ items.length ∧ m = items.length - i ∧ W i acc ρ, ⟨_, [], _, Z1, SD.wipe vs, Nat.zero_le _, rfl, w0⟩, ?_⟩
  rintro i m H2 ⟨acc, ρ2, Z2, S2, hi, rfl, hW⟩
  have le2 := (back _ _ _ _ _ S2).2
  have leH : Le Z1 H2 := le2.trans' S2.sub
  by_cases hlt : i < items.length
  · refine .inr ⟨it.1 i H2 leH hlt, fun H' => ∃ acc' ρ' Z', St1 F.K B' (wipe σ vs) H' ρ' Z' [(.ref Dd, .oo acc')] ∧ W (i + 1) acc' ρ', fun H' ⟨acc', ρ', Z', S', hW'⟩ => ⟨items.length - (i + 1), by omega, acc', ρ', Z', S', hlt, rfl, hW'⟩, fun x H' y => ?_⟩
    have e : items[i]? = some items[i] := by simp [hlt]
    obtain ⟨B3, S3, back3, _⟩ := S2.holdA
    have go : ∀ {H3 : Hp} {Z3 : Hp}, St1 F.K B3 (wipe σ vs) H3 ρ2 Z3 [] → Rp F.K Z3 x items[i] → tg x (wipe σ vs) H3 fun σ2 H2 => wipe σ2 vs = wipe σ vs ∧ tt σ2 H2 fun b H3 =>
        if b = true then te σ2 H3 fun y H4 => ∃ acc, H4 Dd = some (.lst acc) ∧ acc.length < sizeLine ∧ ∃ acc' ρ' Z', St1 F.K B' (wipe σ vs) (upd H4 Dd (.lst (acc ++ [y]))) ρ' Z' [(.ref Dd, .oo acc')] ∧ W (i + 1) acc' ρ' else ∃ acc' ρ' Z', St1 F.K B' (wipe σ vs) H3 ρ' Z' [(.ref Dd, .oo acc')] ∧ W (i + 1) acc' ρ' := fun {H3 Z3} S3 r => by
      refine hg B3 (wipe σ vs) H3 ρ2 Z3 x _ _ _ (S3.have r) (ws i _ acc ρ2 e hW) fun σ4 H4 ρ4 Z4 S4 _ w4 hw => ?_
      rw [wipe_wipe] at w4
      refine ⟨w4, ht B3 σ4 H4 ρ4 Z4 _ _ noEX S4 no_ex hw fun b H5 ρ5 Z5 S5 _ hw => ?_⟩
      cases b with
      | false =>
        have S6 := S5.wipe vs
        rw [w4] at S6
        exact ⟨acc, _, _, (back3 _ _ _ _ _ S6).1, hw⟩
      | true =>
        refine he B3 σ4 H5 ρ5 Z5 _ _ noEX S5 no_ex hw fun y s H6 ρ6 Z6 S6 _ hw => ?_
        have fin : ∀ d, s = .ow (.lst d) → acc.length < sizeLine → W (i + 1) (acc ++ [d]) (wipeE ρ6 vs) → ∃ acc, H6 Dd = some (.lst acc) ∧ acc.length < sizeLine ∧ ∃ acc' ρ' Z', St1 F.K B' (wipe σ vs) (upd H6 Dd (.lst (acc ++ [y]))) ρ' Z' [(.ref Dd, .oo acc')] ∧ W (i + 1) acc' ρ'   := fun d es hz hw2 => by
          rw [es] at S6
          have S8 := S6.wipe vs
          rw [w4] at S8
          have S9 := (back3 _ _ _ _ _ S8).1
          obtain ⟨a, as, ea, haD, hlen, _⟩ := (St1.oo (tmp_first S9))
          cases ea
          obtain ⟨q, rfl⟩ := own_ref S9
          refine ⟨as.map .ref, haD, by rw [List.length_map, hlen]; exact hz, acc ++ [d], _, Z6, ?_, hw2⟩
          have := S9.push (tmp := []) haD hlen
          rw [List.map_append] at this
          exact this
        cases s with
        | ow d =>
          cases d with
          | lst d =>
            obtain ⟨hz, hw2⟩ := (show acc.length < sizeLine ∧ W (i + 1) (acc ++ [d]) (wipeE ρ6 vs) from hw)
            exact fin d rfl hz hw2
          | _ => exact (show False from hw).elim
        | _ => exact (show False from hw).elim
    rcases it.2.2 i _ H2 x H' leH e y with ⟨rfl, r⟩ | ⟨p, us, ds, hp, rfl, rfl, ed, rl⟩
    · exact go S3 (Rp.le le2 _ _ r)
    · obtain ⟨S4, le4⟩ := S3.allocZ (o := .tup us) hp
      exact go S4 (by rw [ed]; exact .tup (.of upd_same) (RpL.le (le2.trans' le4) _ _ rl))
  · have e : i = items.length := by omega
    subst e
    refine .inl ⟨it.2.1 H2 leH, ?_⟩
    exact q _ _ H2 _ Z2 (S1.unwipe (back _ _ _ _ _ S2).1 le2) (wz acc ρ2 hW)
theorem re_lcO {elt tg iter : Expr} {ifs : List Expr} {scope : Scope} {own : List (Str × Nat)} {wi : WI} {g : WG} {wt : WT} {we : WE} (hi : RI F tg iter wi) (ok : ∀ i, BlkOk (F.X i).N (F.X i).env.scope scope own) (hg : RG (F.blk scope) tg g (own.map (·.2))) (ht : RTs (F.blk scope) ifs wt) (he : RE (F.blk scope) elt we)
    (hs : ∀ i x, foldedSetIterable iter (F.X i).env x = pure x := by intro _ _; rfl) : RE F (.ListComp elt [⟨tg, iter, ifs, 0⟩] scope pos) (wLcO wi g wt we (own.map (·.2))) := by
  obtain ⟨ti, i1, i2⟩ := hi
  obtain ⟨tg', g1, g2⟩ := hg
  obtain ⟨tt, t1, t2⟩ := ht
  obtain ⟨te, e1, e2⟩ := he
  exact ⟨_, fun i => pe_lc (F.calm i) (F.nd i) (i1 i) (ok i) (fun s H C cl fp => g1 (i, s, H, C, cl, fp)) (fun s H C cl fp => t1 (i, s, H, C, cl, fp)) (fun s H C cl fp => e1 (i, s, H, C, cl, fp)) (hs i), lcO_ok i2 g2 t2 e2⟩
theorem rs_lcO (k : Nat) {y : Str} {py spos : Pos} {elt tg iter : Expr} {ifs : List Expr} {scope : Scope} {own : List (Str × Nat)} {wi : WI} {g : WG} {wt : WT} {we : WE} (hi : RI F tg iter wi) (ok : ∀ i, BlkOk (F.X i).N (F.X i).env.scope scope own) (hg : RG (F.blk scope) tg g (own.map (·.2))) (ht : RTs (F.blk scope) ifs wt) (he : RE (F.blk scope) elt we)
    (hsw : ∀ i, swapsWith (.ListComp elt [⟨tg, iter, ifs, 0⟩] scope pos) (some (.Name y py)) spos.line (F.X i).env = pure true) (hy : ∀ i, (F.X i).N[k]? = some y := by intro _; rfl) (hyl : ∀ i, (F.X i).env.scope.names.lookup y = some .local := by intro _; rfl)
    (hs : ∀ i x, foldedSetIterable iter (F.X i).env x = pure x := by intro _ _; rfl) : RS F (.Assign [.Name y py] (.ListComp elt [⟨tg, iter, ifs, 0⟩] scope pos) spos) (wSet k (wLcO wi g wt we (own.map (·.2)))) := by
  obtain ⟨ti, i1, i2⟩ := hi
  obtain ⟨tg', g1, g2⟩ := hg
  obtain ⟨tt, t1, t2⟩ := ht
  obtain ⟨te, e1, e2⟩ := he
  exact ⟨_, fun i => ps_setLc (F.calm i) (F.nd i) (hy i) (hyl i) (hsw i) (i1 i) (ok i) (fun s H C cl fp => g1 (i, s, H, C, cl, fp)) (fun s H C cl fp => t1 (i, s, H, C, cl, fp)) (fun s H C cl fp => e1 (i, s, H, C, cl, fp)) (hs i),
    fun B σ H ρ Z D C S O hw => lcO_ok i2 g2 t2 e2 B σ H ρ Z _ _ _ S O.ex hw fun v s H1 ρ1 Z1 S1 _ hw => O.nx _ H1 _ Z1 S1.store hw⟩

/-! ### x[i].append(e): the list of lists is out of sight while e runs -/
@[simp] def ooS : Option Sl → Option (List (List D))
  | some (.oo dss) => some dss
  | _ => none
theorem ooS_of {s : Option Sl} {dss : List (List D)} (h : ooS s = some dss) : s = some (.oo dss) := by
  match s, h with
  | some (.oo d), h => cases h; rfl
@[simp] def wMutAt (k : KM) (j : Nat) (wi : WR) (as : WVs) : WE := fun E ρ Q => withO (ooS ρ[j]?) fun _ => wi E ρ fun r ρ1 => withO (ooS ρ1[j]?) fun dss => with1 (look ρ1 r) fun d => match d with
  | .int i => withO (ixN dss.length i) fun n => withO dss[n]? fun xs => as E (ρ1.set j .un) fun ds ρ2 => k (.lst xs) ds fun e d' => match d' with
    | .lst ys => Q (.fz e) (ρ2.set j (.oo (dss.set n ys)))
    | _ => False
  | _ => False
theorem re_mutAt {id : String} {k : KM} {wi : WR} {wa : WVs} {es : List Expr} {ie : Expr} {name : Str} {apos cpos npos ipos : Pos} (j : Nat) (hc : MutD F id k) (hi : RR F ie wi) (ha : RVs F (e :: es) wa) (pa : PlainAttrs "list") (slot : Slot "list" name id) (hty : typeOf (.builtin id) = pure (.type "method_descriptor"))
    (hpi : PlainIx ie := by intro _ _; rfl) (hN : ∀ i, (F.X i).N[j]? = some x := by intro _; rfl) (hv : ∀ j, Vis (F.X j).env.scope x := by intro _; first | exact Or.inl rfl | exact Or.inr (Or.inl rfl) | exact Or.inr (Or.inr rfl)) (hd : (x == ("__debug__" : Str)) = false := by decide) (hcd : (x == ("__classdict__" : Str)) = false := by decide)
    (hbase : ∀ i, attributeBase (.Subscript (.Name x npos) ie ipos) name (F.X i).env (eval (.Subscript (.Name x npos) ie ipos) (F.X i).env) = eval (.Subscript (.Name x npos) ie ipos) (F.X i).env := by intro _; rfl)
    (hfew : ∀ i, ((backTo cpos (starEach (e :: es) (F.X i).env)).all (fun x => !x.1) && (backToKw cpos (keywordEach [] (F.X i).env)).all (fun x => x.1.isSome)
      && decide ((e :: es).length + ([] : List Keyword).length + (if ([] : List Keyword).isEmpty then 0 else 1) < 30)) = true := by intro _; rfl)
    (hline : (apos.endLine == cpos.line) = true := by rfl) (hs : ∀ i, starEach (e :: es) (F.X i).env = (false, eval e (F.X i).env) :: starEach es (F.X i).env := by intro _; rfl) (hplain : ∀ i, (backTo cpos (starEach es (F.X i).env)).any (·.1) = false := by intro _; rfl) :
    RE F (.Call (.Attribute (.Subscript (.Name x npos) ie ipos) name apos) (e :: es) [] cpos) (wMutAt k j wi wa) := by
  obtain ⟨r, h1, h2⟩ := hc
  obtain ⟨ti, i1, i2⟩ := hi
  obtain ⟨t, a1, a2⟩ := ha
  refine ⟨tBM F.K "list" r (tOp (rIxL F.K) (tVar j) ti) t, fun i => by rw [← F.hK i]; exact pe_bm pa slot hty (h1 i) (pe_ix ix_list (pe_var (hN i) (hv i) hd hcd) (i1 i) hpi) (a1 i) (hbase i) (hfew i) hline (hs i) (hplain i), LE.of fun B σ H ρ Z Q Q' E S X hw q => ?_⟩
  obtain ⟨dss0, e0, hw⟩ := withO_of hw
  obtain ⟨v, g, ev, sl⟩ := S.slot (ooS_of e0)
  obtain ⟨a0, as0, rfl, _⟩ := sl
  refine ⟨.ref a0, ev, i2 B σ H ρ Z _ _ E S X hw fun y r1 H1 ρ1 Z1 S1 le1 o1 hw => ?_⟩
  obtain ⟨dss, e1, hw⟩ := withO_of hw
  obtain ⟨dx, e2, hw⟩ := with1_of hw
  have ry := S1.read o1 e2
  cases dx with
  | int i =>
    obtain ⟨n, en, hw⟩ := withO_of (show withO _ _ from hw)
    obtain ⟨xs, ex, hw⟩ := withO_of hw
    have T1 := S1.take (ooS_of e1) ev
    obtain ⟨a, as, ea, hLa, hlen, look⟩ := T1.oo
    cases ea
    obtain ⟨b, vs, eb, hb, rl, _⟩ := look n xs ex
    refine ⟨a0, as.map .ref, i, .ref b, rfl, rd_int ry, .of hLa, ?_, ?_⟩
    · unfold atI
      rw [List.length_map, hlen, en]
      show (as.map V.ref)[n]? = some (.ref b)
      rw [List.getElem?_map, eb]
      rfl
    · refine ⟨.inl ⟨rfl, vs, .of hb⟩, ?_⟩
      obtain ⟨B3, S3, back3, fx3⟩ := T1.holdA
      have X3 : ExOk F B3 E := fun σ' H' ρ' Z' C dx v d S r rp qq => X σ' H' ρ' Z' C dx v d (back3 _ _ _ _ _ S).1.drop r rp qq
      refine a2 B3 σ H1 _ Z1 _ _ E S3 X3 hw fun us ds H4 ρ4 Z4 S4 le4 ru hw => ?_
      obtain ⟨S5, _⟩ := back3 _ _ _ _ _ S4
      obtain ⟨a', as', ea', hLa', hlen', look'⟩ := S5.oo
      cases ea'
      -- the lists are where they were: what is held stays
      obtain ⟨b', vs', eb', hb', rl', put⟩ := look' n xs ex
      have same : b' = b := by
        have h5 := S4.fx a0 _ ((fx3 a0 dss rfl rfl).trans hLa)
        rw [h5] at hLa'
        have h6 : as.map V.ref = as'.map V.ref := by
          have h7 := Option.some.inj hLa'
          injection h7
        have h8 : (as.map V.ref)[n]? = (as'.map V.ref)[n]? := by rw [h6]
        rw [List.getElem?_map, List.getElem?_map, eb, eb'] at h8
        have h9 : some (V.ref b) = some (V.ref b') := h8
        injection h9 with h9
        injection h9 with h9
        exact h9.symm
      subst same
      refine h2 Z4 H4 b' (.lst vs') (.lst xs) us ds Q _ S4.sub hb' rl' ru hw fun v e o' d' ro rv hq => ?_
      cases d' with
      | lst ys =>
        cases o' with
        | lst ws => exact q v _ _ _ _ (((put ws ys ro).putBack ev).have rv) hq
        | _ => exact (show False from ro).elim
      | _ => exact (show False from hq).elim
  | _ => exact (show False from hw).elim
end
end Pu

set_option Elab.async false
set_option linter.all false
set_option maxRecDepth 100000
/-! Pu, attributes; methods and makings whose callee is a promise of Pu; a def read where all stays. -/
namespace Pu
open PySem L2 PySem.Spec PyProof.Rows

section
variable {F : Fm} {e : Expr} {pos : Pos} {w : WR}
/-- e.f, an attribute -/
theorem re_fld {C : Addr} (own : Str) (cl : Cls F.K C) (hn : NoAttr F.K C own) (ha : RR F e w) (hab : ∀ i, attributeBase e own (F.X i).env (eval e (F.X i).env) = eval e (F.X i).env := by intro _; rfl) : RE F (.Attribute e own pos) (wProp C own w) := by
  obtain ⟨t, a1, a2⟩ := ha
  refine ⟨tFld F.K t own, fun i => by rw [← F.hK i]; exact pe_fld (a1 i) (hab i), LE.of fun B σ H ρ Z Q Q' E S X hw q => a2 B σ H ρ Z _ _ E S X hw fun x r H1 ρ1 Z1 S1 le1 o1 hw => ?_⟩
  obtain ⟨d, e1, hw⟩ := with1_of hw
  obtain ⟨⟨C', fs, xs⟩, e3, hC, hw2⟩ := withO_of hw
  have hC : C' = C := hC
  subst hC
  obtain ⟨dv, e2, hq⟩ := withO_of hw2
  obtain ⟨a, dx, kvs, rfl, hz, hh, en, rl⟩ := rd_insOf S1 (S1.read o1 e1) e3
  obtain ⟨v, h1, rv⟩ := fld_look rl (by rw [en]; exact e2)
  exact ⟨a, C', dx, kvs, v, rfl, hh, cl, hn, h1, q _ _ _ _ _ (S1.have rv) hq⟩
end
section
variable {X : Cx} {W : WX} {k n : Nat} {f C : Addr} {fd : FuncData} {ps : List Str} {sp : Sp} {x m : Str} {p pos apos : Pos} {e o : Expr} {es : List Expr} {ta : TE} {t : TA}
theorem pg_meth {pl : Sem Bool} (he : PE X o ta) (c : Cls X.K C) (hm : Meth X.K C m f) (G : FnG X.prog X.w X.K X.mg X.base k f fd ps sp) (hr : Room k X.A) (hgd : X.A.guards = some []) (hb : Bd fd ps (n + 1) []) (tkx : Takes X W) (ha : PA X (e :: es) t)
    (hst : starEach (e :: es) X.env = (false, eval e X.env) :: starEach es X.env := by rfl) (hpl : (backTo pos (starEach es X.env)).any (·.1) = false := by rfl)
    (ht : eval (.Call (.Attribute o m apos) (e :: es) [] pos) X.env = (do
      let ov ← eval o X.env
      standAt apos.atName
      let (f, first) ← holding [ov] (getMethod ov m pl)
      callWith pos f first (backTo pos (starEach (e :: es) X.env)) (backToKw pos (keywordEach [] X.env))) := by rfl) :
    PE X (.Call (.Attribute o m apos) (e :: es) [] pos) (fun σ H Q => ta σ H fun x H1 => ∃ a dx fs, x = .ref a ∧ H1 a = some (.ins C dx fs) ∧ fs.lookup m = none ∧ t σ H1 fun vs H2 => vs.length = n ∧ sp (.ref a :: vs) H2 Q (L2.WE W σ)) := by
  refine ⟨fun pins s σ H Q I h => ?_⟩
  refine PySem.W.methodCall_KW (pl := pl) (thn (he.run pins s σ H _ I h) fun u s1 ⟨x, H1, I1, rx, a, dx, fs, ex, ea, l, q⟩ => ?_) ht
  subst ex
  obtain rfl : u = Value.ref a := rx
  refine getmeth_ok I1 ea c hm l ?_
  refine PySem.W.callWith_K (first := [.ref a]) (h₀ := X.base) I.ok.mod.kin hm.kp (thn (ha.run pos pins s1 σ H1 _ I1 q) fun us s2 ⟨vs, H2, I2, r, ln, q2⟩ => ⟨I2.kIn, ?_⟩) hst hpl
  have q3 : sp ((V.ref a :: vs) ++ []) H2 Q (L2.WE W σ) := by rw [List.append_nil]; exact q2
  have := run_g (us := .ref a :: us) (vs := .ref a :: vs) (ws := []) (zs := []) (n := n + 1) (ks := []) G hr hgd hb tkx I2 (.cons rfl r) .nil (by rw [List.length_cons, ← r.length, ln]) rfl q3
  exact this
theorem pg_meth0 {pl : Sem Bool} (he : PE X o ta) (c : Cls X.K C) (hm : Meth X.K C m f) (G : FnG X.prog X.w X.K X.mg X.base k f fd ps sp) (hr : Room k X.A) (hgd : X.A.guards = some []) (hb : Bd fd ps 1 []) (tkx : Takes X W)
    (ht : eval (.Call (.Attribute o m apos) [] [] pos) X.env = (do
      let ov ← eval o X.env
      standAt apos.atName
      let (f, first) ← holding [ov] (getMethod ov m pl)
      callWith pos f first (backTo pos (starEach [] X.env)) (backToKw pos (keywordEach [] X.env))) := by rfl) :
    PE X (.Call (.Attribute o m apos) [] [] pos) (fun σ H Q => ta σ H fun x H1 => ∃ a dx fs, x = .ref a ∧ H1 a = some (.ins C dx fs) ∧ fs.lookup m = none ∧ sp [.ref a] H1 Q (L2.WE W σ)) := by
  refine ⟨fun pins s σ H Q I h => ?_⟩
  refine PySem.W.methodCall_KW (pl := pl) (thn (he.run pins s σ H _ I h) fun u s1 ⟨x, H1, I1, rx, a, dx, fs, ex, ea, l, q⟩ => ?_) ht
  subst ex
  obtain rfl : u = Value.ref a := rx
  refine getmeth_ok I1 ea c hm l ?_
  exact PySem.W.callWith_K0 (first := [.ref a]) I1.kIn hm.kp (run_g (us := [.ref a]) (vs := [.ref a]) (ws := []) (zs := []) (n := 1) (ks := []) G hr hgd hb tkx I1 (.cons rfl .nil) .nil rfl rfl q)
theorem run_makeG {pins : List (Addr × Obj)} {σ : L2.St} {H : Hp} {s : Shared} {Q : VK} {us : List Value} {vs : List V} (M : Mk X.K C f) (G : FnG X.prog X.w X.K X.mg X.base k f fd ps sp) (hr : Room (k + 1) X.A) (hgd : X.A.guards = some []) (hb : Bd fd ps (n + 1) []) (tkx : Takes X W)
    (I : Inv X pins σ H s) (r : Vals vs us) (ln : vs.length = n)
    (h : ∀ x dx, H x = none → H dx = none → dx ≠ x → sp (.ref x :: vs) (upd (upd H dx (.own x)) x (.ins C dx [])) (fun v H2 => v = .non ∧ Q (.ref x) H2) (L2.WE W σ)) :
    wpAny (model X.prog X.w) X.A (call (.ref C) us) (EP X pins σ Q) X.xe s := by
  have hq := h (s.heap.objs.size + 1) s.heap.objs.size (I.hok.fresh (Nat.le_succ _)) (I.hok.fresh (Nat.le_refl _)) (Nat.ne_of_lt (Nat.lt_succ_self _))
  have I2 := Inv.made (C := C) I
  have r2 : Vals (V.ref (s.heap.objs.size + 1) :: vs) (Value.ref (s.heap.objs.size + 1) :: us) := .cons rfl r
  have hgd2 : (X.A).guards = some [] := hgd
  refine wpAny_call (make_map (f := f) I.kIn M.makes M.init (beq_iff_eq.mp M.fn) (codeAny_mono (G.go _ X.stack _ _ ⟨Value.ref (s.heap.objs.size + 1) :: us, []⟩ (Value.ref (s.heap.objs.size + 1) :: us) _ _ (L2.WE W σ) (hr.make C us []) ?_
    (I2.env0.make C us []) (.of_eq ?_) r2 hq) fun r s' hq' => ?_))
  · first
      | exact hgd2
      | simpa using hgd2
  · have := hb (Value.ref (s.heap.objs.size + 1) :: us) [] (by rw [List.length_cons, ← r.length, ln]) rfl
    simpa using this
  cases r with
  | error e => exact passAt tkx σ pins _ _ e s' I2 hq'
  | ok fl =>
    cases fl with
    | ret u =>
      obtain ⟨v, H', I3, rv, ev, q3⟩ := I2.after hq'
      subst ev
      exact ⟨rv, ⟨V.ref (s.heap.objs.size + 1), H', I3, rfl, q3⟩⟩
    | next => exact False.elim hq'
    | brk => exact False.elim hq'
    | cont => exact False.elim hq'
theorem pg_make (M : Mk X.K C f) (G : FnG X.prog X.w X.K X.mg X.base k f fd ps sp) (hr : Room (k + 1) X.A) (hgd : X.A.guards = some []) (hg : Gl X x) (hm : X.mg x = some (.ref C)) (hb : Bd fd ps (n + 1) []) (tkx : Takes X W)
    (ha : PA X (e :: es) t) (hdb : (x == ("__debug__" : Str)) = false := by decide) (he : starEach (e :: es) X.env = (false, eval e X.env) :: starEach es X.env := by rfl) (hpl : (backTo pos (starEach es X.env)).any (·.1) = false := by rfl) :
    PE X (.Call (.Name x p) (e :: es) [] pos) (fun σ H Q => t σ H fun vs H1 => vs.length = n ∧ ∀ y dx, H1 y = none → H1 dx = none → dx ≠ y → sp (.ref y :: vs) (upd (upd H1 dx (.own y)) y (.ins C dx [])) (fun v H2 => v = .non ∧ Q (.ref y) H2) (L2.WE W σ)) := by
  refine ⟨fun pins s σ H Q I h => ?_⟩
  refine wpAny_Call_Name_kw (ld_glob I hg hm ?_ hdb)
  refine PySem.W.callWith_K (h₀ := X.base) I.ok.mod.kin M.kp (thn (ha.run pos pins s σ H _ I h) fun us s1 ⟨vs, H1, I1, r, ln, q⟩ => ⟨I1.kIn, ?_⟩) he hpl
  exact run_makeG M G hr hgd hb tkx I1 r ln q
theorem pg_make0 (M : Mk X.K C f) (G : FnG X.prog X.w X.K X.mg X.base k f fd ps sp) (hr : Room (k + 1) X.A) (hgd : X.A.guards = some []) (hg : Gl X x) (hm : X.mg x = some (.ref C)) (hb : Bd fd ps 1 []) (tkx : Takes X W)
    (hdb : (x == ("__debug__" : Str)) = false := by decide) : PE X (.Call (.Name x p) [] [] pos) (fun σ H Q => ∀ y dx, H y = none → H dx = none → dx ≠ y → sp [.ref y] (upd (upd H dx (.own y)) y (.ins C dx [])) (fun v H2 => v = .non ∧ Q (.ref y) H2) (L2.WE W σ)) := by
  refine ⟨fun pins s σ H Q I h => ?_⟩
  refine wpAny_Call_Name_kw (ld_glob I hg hm ?_ hdb)
  exact PySem.W.callWith_K0 I.kIn M.kp (run_makeG (us := []) (vs := []) (n := 0) M G hr hgd hb tkx I .nil rfl h)
end
/-! ### where all stays -/
section
variable {K : PySem.W.Frag} {B : Bs} {σ : L2.St} {H H' : Hp} {ρ : En} {Z : Hp}
def allB (H : Hp) : Bs := ⟨H, H, H, fun _ => 0⟩
theorem St1.all {ρ : En} (hl : σ.length = ρ.length) (h : Paired (fun v s => s = .un ∨ ∃ u d, v = some u ∧ s = .fz d ∧ Rp K H u d) σ ρ) : St1 K (allB H) σ H ρ H [] := by
  refine ⟨hl, fun _ _ e => e, fun _ _ e => .inl e, fun _ _ e => e, fun _ _ e => e, fun _ e => e, ?_⟩
  simp only [tmps, List.map_nil, List.append_nil]
  have : ∀ {σ : L2.St} {ρ : En}, Paired (fun v s => s = .un ∨ ∃ u d, v = some u ∧ s = .fz d ∧ Rp K H u d) σ ρ → ∃ fps : List (List Addr), Paired (fun (e : Ent) fp => SlR K (allB H) H H e.1 fp e.2) (σ.zip ρ) fps ∧ fps.flatten = [] := by
    intro σ ρ h
    induction h with
    | nil => exact ⟨[], .nil, rfl⟩
    | cons q t ih =>
      obtain ⟨fps, p, e⟩ := ih
      rcases q with rfl | ⟨u, d, rfl, rfl, r⟩
      · exact ⟨[] :: fps, .cons rfl p, by simpa using e⟩
      · exact ⟨[] :: fps, .cons ⟨rfl, u, rfl, r⟩ p, by simpa using e⟩
  obtain ⟨fps, p, e⟩ := this h
  exact ⟨fps, p, by rw [e]; exact List.nodup_nil⟩
/-- all that is new stays -/
def grow (Z H H' : Hp) : Hp := fun c => match Z c with
  | some o => some o
  | none => match H c with
    | none => H' c
    | some _ => none
theorem grow_old {Z H H' : Hp} {c : Addr} {o : HO} (h : Z c = some o) : grow Z H H' c = some o := by unfold grow; rw [h]
theorem grow_new {Z H H' : Hp} {c : Addr} (hz : Z c = none) (h : H c = none) : grow Z H H' c = H' c := by unfold grow; rw [hz, h]
theorem grow_of {Z H H' : Hp} {c : Addr} {o : HO} (h : grow Z H H' c = some o) : Z c = some o ∨ (Z c = none ∧ H c = none ∧ H' c = some o) := by
  cases e : Z c with
  | some u => rw [grow_old e] at h; exact .inl (h ▸ rfl)
  | none =>
    cases e2 : H c with
    | none => rw [grow_new e e2] at h; exact .inr ⟨rfl, rfl, h⟩
    | some u => unfold grow at h; rw [e, e2] at h; cases h
theorem St1.grown (S : St1 K B σ H ρ Z []) (k : ∀ c o, H c = some o → H' c = some o) : St1 K B σ H' ρ (grow Z H H') [] ∧ Le Z (grow Z H H') := by
  have le : Le Z (grow Z H H') := fun c o e => grow_old e
  refine ⟨⟨S.len, fun c o e => ?_, fun c o e => ?_, S.zo.trans' le, fun c o e => k c o (S.fx c o e), fun c e => ?_, ?_⟩, le⟩
  · rcases grow_of e with e | ⟨_, _, e⟩
    · exact k c o (S.sub c o e)
    · exact e
  · rcases grow_of e with e | ⟨_, h0, _⟩
    · exact S.zn c o e
    · have := S.fresh h0
      exact .inr ⟨this.2.1, this.2.2⟩
  · have := S.dm c e
    cases e2 : H c with
    | none => exact absurd e2 this
    | some o => rw [k c o e2]; simp
  · exact Mv.reps (B := B) (B' := B) ⟨le, fun c o e _ z f => by unfold grow; rw [z, e], fun _ _ _ _ _ f => f, fun _ _ _ _ z => z, fun c o e _ _ _ => k c o e, rfl⟩ S.rp
end
/-! ### the first statements of a body -/
def RSx (F : Fm) (pre : List Stmt) (w : WS) : Prop := ∃ T : TS → TS, (∀ i rest tr, PSs (F.X i) rest tr → PSs (F.X i) (pre ++ rest) (T tr)) ∧ ∀ tr B σ H ρ Z D K, St1 F.K B σ H ρ Z [] → EnOk F B { D with nx := tr D } K → w K ρ → T tr D σ H
theorem rx_nil {F : Fm} : RSx F [] wPass := ⟨fun tr => tr, fun _ _ _ h => h, fun tr B σ H ρ Z D K S O hw => O.nx σ H ρ Z S hw⟩
theorem rx_cons {F : Fm} {st : Stmt} {pre : List Stmt} {w u : WS} (h : RS F st w) (h' : RSx F pre u) : RSx F (st :: pre) (wSeq w u) := by
  obtain ⟨t, a1, a2⟩ := h
  obtain ⟨T, b1, b2⟩ := h'
  refine ⟨fun tr => _, fun i rest tr hr => pss_cons (a1 i) (b1 i rest tr hr), fun tr B σ H ρ Z D K S O hw => ?_⟩
  exact a2 B σ H ρ Z _ { K with nx := u K } S ⟨fun σ1 H1 ρ1 Z1 S1 q => b2 tr B σ1 H1 ρ1 Z1 D K S1 O q, O.rt, O.bk, O.ct, O.ex⟩ hw
section
variable {P : Program} {w : World} {K : PySem.W.Frag} {mg : Str → Option Value} {base : Heap} {k : Nat} {f : Addr} {fd : FuncData} {ps : List Str}
theorem fmP_of {qual : Str} {st : Stmt} {N : List Str} (S : FnScope N ps (defScope st)) {cdv : Value} {A : Around} {outer : List Env} {s : Shared} {H : Hp} {E : XK} (hr : Room k (A.deeper (envOfC qual (defScope st) s.heap.objs.size f cdv))) (hgd : (A.deeper (envOfC qual (defScope st) s.heap.objs.size f cdv)).guards = some []) :
    FmP (cxOf (L2.CX P w) P w K mg base N qual (defScope st) f cdv A outer s H E) K (fun cls d _ H => E cls d H) w :=
  ⟨rfl, rfl, S.nd, (by have := hr.un; show (A.deeper _).units + 80 < cLine; omega), hgd, passes_of rfl, takes_of rfl rfl rfl rfl, rfl⟩
end
theorem noEnds {F : Fm} {B : Bs} {D : Ends} {P : En → Prop} (h : ∀ σ H ρ Z, St1 F.K B σ H ρ Z [] → P ρ → D.nx σ H) : EnOk F B D { nx := P, rt := fun _ _ => False } :=
  ⟨h, fun _ _ _ _ _ _ _ q => (show False from q).elim, fun _ _ _ _ _ q => (show False from q).elim, fun _ _ _ _ _ q => (show False from q).elim, fun _ _ _ _ _ _ _ _ _ _ _ q => (show False from q).elim⟩
end Pu

set_option Elab.async false
set_option linter.all false
set_option maxRecDepth 100000
/-! Pu, how a house is told: what the reader holds, line by line. -/
namespace Pu
open PySem L2 PySem.Spec PyProof.Rows TL

/-- a name of a room -/
def nameSigns (l : List Nat) : Bool := l.all fun c => (decide (97 ≤ c) && decide (c ≤ 122)) || (decide (48 ≤ c) && decide (c ≤ 57))
structure OkName (x : Str) : Prop where
  some : 0 < (tl x).length
  few : (tl x).length ≤ 8
  fst : ∃ c r, tl x = c :: r ∧ 97 ≤ c ∧ c ≤ 122
  all : nameSigns (tl x) = true
def rdD (C : Nat) (rs : List Str) (ds : List (Str × Str)) : D := .ins C ["own_rooms", "own_doors"] [.lst (rs.map D.str), .lst (ds.map fun d => .tup [.str d.1, .str d.2])]
/-- the reader at r: its lists at a, b; the doors at ts -/
structure RdAt (C : Addr) (H : Hp) (r dx a b : Addr) (rs : List Str) (ts : List Addr) (ds : List (Str × Str)) : Prop where
  ob : H r = some (.ins C dx [("own_rooms", .ref a), ("own_doors", .ref b)])
  ro : H a = some (.lst (rs.map .str))
  do_ : H b = some (.lst (ts.map .ref))
  pa : Paired (fun t (d : Str × Str) => H t = some (.tup [.str d.1, .str d.2])) ts ds
  ab : a ≠ b
theorem RdAt.rp {C : Addr} {H : Hp} {r dx a b : Addr} {rs : List Str} {ts : List Addr} {ds : List (Str × Str)} {K : PySem.W.Frag} (h : RdAt C H r dx a b rs ts ds) : Rp K H (.ref r) (rdD C rs ds) := by
  refine .ins (fs := [("own_rooms", .ref a), ("own_doors", .ref b)]) h.ob rfl (.cons (.lst h.ro (RpL.strs rs)) (.cons (.lst h.do_ ?_) .nil))
  have : ∀ {ts : List Addr} {ds : List (Str × Str)}, Paired (fun t (d : Str × Str) => H t = some (.tup [.str d.1, .str d.2])) ts ds → RpL K H (ts.map .ref) (ds.map fun d => .tup [.str d.1, .str d.2]) := by
    intro ts ds p
    induction p with
    | nil => exact .nil
    | cons q t ih => exact .cons (.tup (.inl q) (.cons (.str _) (.cons (.str _) .nil))) ih
  exact this h.pa
theorem RdAt.up {C : Addr} {H H' : Hp} {r dx a b : Addr} {rs : List Str} {ts : List Addr} {ds : List (Str × Str)} (h : RdAt C H r dx a b rs ts ds) (k : ∀ c o, H c = some o → H' c = some o) : RdAt C H' r dx a b rs ts ds :=
  ⟨k _ _ h.ob, k _ _ h.ro, k _ _ h.do_, pd_imp h.pa fun _ _ _ q => k _ _ q, h.ab⟩
/-- one more room -/
theorem RdAt.room {C : Addr} {H H' : Hp} {r dx a b : Addr} {rs : List Str} {ts : List Addr} {ds : List (Str × Str)} (h : RdAt C H r dx a b rs ts ds) (k : ∀ c o, H c = some o → H' c = some o) (nm : Str) : RdAt C (upd H' a (.lst ((rs ++ [nm]).map .str))) r dx a b (rs ++ [nm]) ts ds ∧ ∀ c o, H c = some o → c ≠ a → upd H' a (.lst ((rs ++ [nm]).map .str)) c = some o := by
  have h' := h.up k
  refine ⟨⟨?_, upd_same, ?_, pd_imp h'.pa fun t d _ q => ?_, h.ab⟩, fun c o e ne => by rw [upd_ne ne]; exact k c o e⟩
  · rw [upd_ne (ne_of h'.ob h'.ro (by intro z; cases z))]; exact h'.ob
  · rw [upd_ne h.ab.symm]; exact h'.do_
  · rw [upd_ne (ne_of q h'.ro (by intro z; cases z))]; exact q
/-- one more door -/
theorem RdAt.door {C : Addr} {H H' : Hp} {r dx a b t : Addr} {rs : List Str} {ts : List Addr} {ds : List (Str × Str)} (h : RdAt C H r dx a b rs ts ds) (k : ∀ c o, H c = some o → H' c = some o) (one other : Str) (ht : H' t = some (.tup [.str one, .str other])) :
    RdAt C (upd H' b (.lst ((ts ++ [t]).map .ref))) r dx a b rs (ts ++ [t]) (ds ++ [(one, other)]) ∧ ∀ c o, H c = some o → c ≠ b → upd H' b (.lst ((ts ++ [t]).map .ref)) c = some o := by
  have h' := h.up k
  have nt : ∀ {c : Addr} {xs : List V}, H' c = some (.tup xs) → c ≠ b := fun q => ne_of q h'.do_ (by intro z; cases z)
  refine ⟨⟨?_, ?_, upd_same, pd_app (pd_imp h'.pa fun t d _ q => by rw [upd_ne (nt q)]; exact q) (.cons (by rw [upd_ne (nt ht)]; exact ht) .nil), h.ab⟩, fun c o e ne => by rw [upd_ne ne]; exact k c o e⟩
  · rw [upd_ne (ne_of h'.ob h'.do_ (by intro z; cases z))]; exact h'.ob
  · rw [upd_ne h.ab]; exact h'.ro

/-! ### the words of a line -/
theorem sp_tl : tl (" " : Str) = [32] := by decide +kernel
theorem room_tl : tl ("room" : Str) = [114, 111, 111, 109] := by decide +kernel
theorem door_tl : tl ("door" : Str) = [100, 111, 111, 114] := by decide +kernel
theorem sp_kind (x : Str) : ¬ Builtin.Str.strKind x < Builtin.Str.strKind (" " : Str) := kind_ok (by decide +kernel)
theorem nsp {x : Str} (h : nameSigns (tl x) = true) : (32 : Nat) ∉ tl x := fun m => by
  have := List.all_eq_true.mp h 32 m
  simp at this
def roomLine (x : Str) : Str := "room" ++ (" " ++ x)
def doorLine (x y : Str) : Str := "door" ++ (" " ++ (x ++ (" " ++ y)))
theorem split_room {x : Str} (h : nameSigns (tl x) = true) : Txt.split (roomLine x) " " = [("room" : Str), x] := by
  apply map_tl_inj
  rw [split_spl _ _ (by rw [sp_tl]; simp) (sp_kind _)]
  unfold roomLine
  rw [tl_append, tl_append, sp_tl, spl_part1 (s := 32) (S := []) (by rw [room_tl]; decide), spl_last1 (nsp h)]
  rfl
theorem split_door {x y : Str} (h : nameSigns (tl x) = true) (h' : nameSigns (tl y) = true) : Txt.split (doorLine x y) " " = [("door" : Str), x, y] := by
  apply map_tl_inj
  rw [split_spl _ _ (by rw [sp_tl]; simp) (sp_kind _)]
  unfold doorLine
  rw [tl_append, tl_append, tl_append, tl_append, sp_tl, spl_part1 (s := 32) (S := []) (by rw [door_tl]; decide), spl_part1 (s := 32) (S := []) (nsp h), spl_last1 (nsp h')]
  rfl
/-! ### promises over the heap -/
def spRoom (K : PySem.W.Frag) (C : Addr) : Sp := fun vs H Q _ => ∃ (r dx a b : Addr) (rs : List Str) (wv : V) (nm : Str), vs = [.ref r, wv] ∧ RdAt C H r dx a b rs [] [] ∧ Rp K H wv (.lst [.str "room", .str nm]) ∧ OkName nm ∧ (∀ x ∈ rs, OkName x) ∧ rs.length < 16 ∧ nm ∉ rs ∧
  ∀ H', RdAt C H' r dx a b (rs ++ [nm]) [] [] → (∀ c o, H c = some o → c ≠ a → H' c = some o) → Q (.bl true) H'
def spTakes (C : Addr) : Sp := fun vs H Q _ => ∃ (r dx a b : Addr) (rs : List Str) (ts : List Addr) (ds : List (Str × Str)) (line : Str), vs = [.ref r, .str line] ∧ RdAt C H r dx a b rs ts ds ∧ (∀ x ∈ rs, OkName x) ∧ (∀ d ∈ ds, OkName d.1 ∧ OkName d.2) ∧
  ((∃ nm, line = roomLine nm ∧ OkName nm ∧ rs.length < 16 ∧ nm ∉ rs ∧ ts = [] ∧ ds = [] ∧ ∀ H', RdAt C H' r dx a b (rs ++ [nm]) [] [] → (∀ c o, H c = some o → c ≠ a → H' c = some o) → Q (.bl true) H') ∨
   (∃ one other, line = doorLine one other ∧ one ≠ other ∧ one ∈ rs ∧ other ∈ rs ∧ (one, other) ∉ ds ∧ (other, one) ∉ ds ∧ ds.length < 60 ∧ rs.length ≤ 16 ∧ ∀ H' t, H t = none → RdAt C H' r dx a b rs (ts ++ [t]) (ds ++ [(one, other)]) → (∀ c o, H c = some o → c ≠ b → H' c = some o) → Q (.bl true) H'))
end Pu

set_option Elab.async false
set_option linter.all false
set_option maxRecDepth 100000
/-! Pu, plain reasoning: comprehensions whose step leaves nothing behind; data that is good. -/
namespace Pu
open PySem L2 PySem.Spec PyProof.Rows TL

/-- a comprehension, item by item -/
theorem lc_in {items : List D} {g : WG} {tt : WT} {te : WE} {vs : List Nat} {ρ1 : En} {Q : Sl → En → Prop} (f : D → Option D) (hl : items.length ≤ sizeLine)
    (hb : ∀ x ∈ items, ∀ (P : D → En → Prop) (N : En → Prop), (∀ d, f x = some d → P d (wipeE ρ1 vs)) → (f x = none → N (wipeE ρ1 vs)) →
      g (.fz x) (wipeE ρ1 vs) fun ρ2 => tt noEX ρ2 fun b ρ3 => if b = true then te noEX ρ3 fun s ρ4 => s.fr fun d => P d (wipeE ρ4 vs) else N (wipeE ρ3 vs))
    (hq : Q (.ow (.lst (items.filterMap f))) (backE ρ1 (wipeE ρ1 vs) vs)) :
    ∃ W : Nat → List D → En → Prop, W 0 [] (wipeE ρ1 vs) ∧
      (∀ i x acc ρ, items[i]? = some x → W i acc ρ → g (.fz x) ρ fun ρ2 => tt noEX ρ2 fun b ρ3 =>
        if b = true then te noEX ρ3 fun s ρ4 => s.fr fun d => acc.length < sizeLine ∧ W (i + 1) (acc ++ [d]) (wipeE ρ4 vs) else W (i + 1) acc (wipeE ρ3 vs)) ∧
      ∀ acc ρ, W items.length acc ρ → Q (.ow (.lst acc)) (backE ρ1 ρ vs) := by
  refine ⟨fun i acc ρ => ρ = wipeE ρ1 vs ∧ acc = (items.take i).filterMap f, ⟨rfl, rfl⟩, ?_, ?_⟩
  · rintro i x acc ρ e ⟨rfl, rfl⟩
    have hi := (List.getElem?_eq_some_iff.mp e).1
    have ht : items.take (i + 1) = items.take i ++ [x] := by rw [List.take_add_one, e]; rfl
    refine hb x (List.mem_of_getElem? e) (fun d ρ' => ((items.take i).filterMap f).length < sizeLine ∧ ρ' = wipeE ρ1 vs ∧ (items.take i).filterMap f ++ [d] = (items.take (i + 1)).filterMap f) (fun ρ' => ρ' = wipeE ρ1 vs ∧ (items.take i).filterMap f = (items.take (i + 1)).filterMap f) (fun d hd => ⟨?_, rfl, ?_⟩) fun hn => ⟨rfl, ?_⟩
    · have h1 := List.length_filterMap_le f (items.take i)
      have h2 := List.length_take_le i items
      omega
    · rw [ht, List.filterMap_append]
      simp [hd]
    · rw [ht, List.filterMap_append]
      simp [hn]
  · rintro acc ρ ⟨rfl, rfl⟩
    rw [List.take_length]
    exact hq
/-- .. where none is left out -/
theorem lc_map {items : List D} {g : WG} {te : WE} {vs : List Nat} {ρ1 : En} {Q : Sl → En → Prop} (f : D → D) (hl : items.length ≤ sizeLine)
    (hb : ∀ x ∈ items, ∀ P : D → En → Prop, P (f x) (wipeE ρ1 vs) → g (.fz x) (wipeE ρ1 vs) fun ρ2 => te noEX ρ2 fun s ρ4 => s.fr fun d => P d (wipeE ρ4 vs))
    (hq : Q (.ow (.lst (items.map f))) (backE ρ1 (wipeE ρ1 vs) vs)) :
    ∃ W : Nat → List D → En → Prop, W 0 [] (wipeE ρ1 vs) ∧
      (∀ i x acc ρ, items[i]? = some x → W i acc ρ → g (.fz x) ρ fun ρ2 => tYes noEX ρ2 fun b ρ3 =>
        if b = true then te noEX ρ3 fun s ρ4 => s.fr fun d => acc.length < sizeLine ∧ W (i + 1) (acc ++ [d]) (wipeE ρ4 vs) else W (i + 1) acc (wipeE ρ3 vs)) ∧
      ∀ acc ρ, W items.length acc ρ → Q (.ow (.lst acc)) (backE ρ1 ρ vs) := by
  refine lc_in (fun x => some (f x)) hl (fun x m P N h1 _ => ?_) (by rw [show (fun x => some (f x)) = some ∘ f from rfl, List.filterMap_eq_map]; exact hq)
  exact hb x m P (h1 _ rfl)
/-- a loop whose slots are known at each turn -/
theorem for_in {items : List D} {g : WG} {body : WS} {ρ1 : En} {K : EndD} (st : Nat → En) (h0 : ρ1 = st 0)
    (hb : ∀ i x (N : En → Prop), items[i]? = some x → N (st (i + 1)) → g (.fz x) (st i) fun ρ2 => body { K with nx := N, ct := N, bk := K.nx } ρ2) (hq : K.nx (st items.length)) :
    ∃ W : Nat → En → Prop, W 0 ρ1 ∧ (∀ i x ρ, items[i]? = some x → W i ρ → g (.fz x) ρ fun ρ2 => body { K with nx := W (i + 1), ct := W (i + 1), bk := K.nx } ρ2) ∧ ∀ ρ, W items.length ρ → K.nx ρ := by
  refine ⟨fun i ρ => ρ = st i, h0, ?_, fun ρ e => by rw [e]; exact hq⟩
  rintro i x ρ e rfl
  exact hb i x _ e rfl
theorem plains_ints (l : List Int) : plains (l.map D.int) = true := by
  induction l with
  | nil => rfl
  | cons x l ih => exact ih
theorem depth_pys0 {l : List D} (h : ∀ d ∈ l, d.py.depth = 0) : PyData.depthAll (pys l) = 0 := by
  induction l with
  | nil => rfl
  | cons x l ih =>
    show max x.py.depth (PyData.depthAll (pys l)) = 0
    rw [h x (List.mem_cons_self ..), ih fun d m => h d (List.mem_cons_of_mem _ m)]
    rfl
theorem depth_pys {l : List D} {n : Nat} (h : ∀ d ∈ l, d.py.depth ≤ n) : PyData.depthAll (pys l) ≤ n := by
  induction l with
  | nil => exact Nat.zero_le _
  | cons x l ih =>
    show max x.py.depth (PyData.depthAll (pys l)) ≤ n
    exact Nat.max_le.mpr ⟨h x (List.mem_cons_self ..), ih fun d m => h d (List.mem_cons_of_mem _ m)⟩
theorem plains_of {l : List D} (h : ∀ d ∈ l, d.plain = true) : plains l = true := by
  induction l with
  | nil => rfl
  | cons x l ih => exact Bool.and_eq_true_iff.mpr ⟨h x (List.mem_cons_self ..), ih fun d m => h d (List.mem_cons_of_mem _ m)⟩
theorem good_str {x : Str} (h : PyData.strOk x = true) : (D.str x).good = true := by
  unfold D.good
  rw [show (D.str x).plain = PyData.strOk x from rfl, h]
  rfl
theorem good_int (i : Int) : (D.int i).good = true := rfl
theorem good_lst {l : List D} {n : Nat} (h : ∀ d ∈ l, d.plain = true) (hd : ∀ d ∈ l, d.py.depth ≤ n) (hn : n < 64 := by decide) : (D.lst l).good = true := by
  unfold D.good
  rw [show (D.lst l).plain = plains l from rfl, plains_of h]
  have := depth_pys hd
  show decide (PyData.depthAll (pys l) + 1 ≤ 64) = true
  exact decide_eq_true (by omega)
theorem good_tup {l : List D} {n : Nat} (h : ∀ d ∈ l, d.plain = true) (hd : ∀ d ∈ l, d.py.depth ≤ n) (hn : n < 64 := by decide) : (D.tup l).good = true := by
  unfold D.good
  rw [show (D.tup l).plain = plains l from rfl, plains_of h]
  have := depth_pys hd
  show decide (PyData.depthAll (pys l) + 1 ≤ 64) = true
  exact decide_eq_true (by omega)
/-! ### == on data without bools is = -/
mutual
def D.nob : D → Bool
  | .non => true
  | .int _ => true
  | .str _ => true
  | .tup xs => nobs xs
  | .lst xs => nobs xs
  | _ => false
def nobs : List D → Bool
  | [] => true
  | x :: xs => x.nob && nobs xs
end
mutual
theorem beq_iff : ∀ (x y : D), x.nob = true → y.nob = true → (beq x y = true ↔ x = y)
  | .non, y, _, hy => by cases y <;> first | (simp [beq, D.py, PyData.eqv]; done) | (simp [D.nob] at hy; done)
  | .int i, y, _, hy => by cases y <;> first | (simp [beq, D.py, PyData.eqv]; done) | (simp [D.nob] at hy; done)
  | .str i, y, _, hy => by cases y <;> first | (simp [beq, D.py, PyData.eqv]; done) | (simp [D.nob] at hy; done)
  | .tup xs, y, hx, hy => by
    cases y with
    | tup ys =>
      have := beqs_iff xs ys hx hy
      simp only [beq, D.py, PyData.eqv] at this ⊢
      rw [this]
      simp
    | _ => first | (simp [beq, D.py, PyData.eqv]; done) | (simp [D.nob] at hy; done)
  | .lst xs, y, hx, hy => by
    cases y with
    | lst ys =>
      have := beqs_iff xs ys hx hy
      simp only [beq, D.py, PyData.eqv] at this ⊢
      rw [this]
      simp
    | _ => first | (simp [beq, D.py, PyData.eqv]; done) | (simp [D.nob] at hy; done)
  | .bl _, _, hx, _ => by cases hx
  | .dic _ _, _, hx, _ => by cases hx
  | .ins _ _ _, _, hx, _ => by cases hx
  | .scr _, _, hx, _ => by cases hx
  | .fn _, _, hx, _ => by cases hx
  | .ttp _, _, hx, _ => by cases hx
  | .at _ _, _, hx, _ => by cases hx
theorem beqs_iff : ∀ (xs ys : List D), nobs xs = true → nobs ys = true → (PyData.eqvAll (pys xs) (pys ys) = true ↔ xs = ys)
  | [], [], _, _ => by simp [pys, PyData.eqvAll]
  | [], _ :: _, _, _ => by simp [pys, PyData.eqvAll]
  | _ :: _, [], _, _ => by simp [pys, PyData.eqvAll]
  | x :: xs, y :: ys, hx, hy => by
    have hx : x.nob = true ∧ nobs xs = true := Bool.and_eq_true_iff.mp hx
    have hy : y.nob = true ∧ nobs ys = true := Bool.and_eq_true_iff.mp hy
    have h1 := beq_iff x y hx.1 hy.1
    have h2 := beqs_iff xs ys hx.2 hy.2
    simp only [pys, PyData.eqvAll, Bool.and_eq_true]
    unfold beq at h1
    rw [h1, h2]
    simp
end
theorem beq_dec {x y : D} (hx : x.nob = true) (hy : y.nob = true) [Decidable (x = y)] : beq x y = decide (x = y) := by
  have := beq_iff x y hx hy
  by_cases h : x = y
  · rw [decide_eq_true h]; exact this.mpr h
  · rw [decide_eq_false h]
    cases e : beq x y with
    | false => rfl
    | true => exact absurd (this.mp e) h
theorem any_beq {x : D} {ds : List D} (hx : x.nob = true) (hd : nobs ds = true) : (ds.any fun z => beq z x) = true ↔ x ∈ ds := by
  induction ds with
  | nil => simp
  | cons d ds ih =>
    have hd : d.nob = true ∧ nobs ds = true := Bool.and_eq_true_iff.mp hd
    rw [List.any_cons, Bool.or_eq_true, ih hd.2, beq_iff d x hd.1 hx, List.mem_cons]
    constructor
    · rintro (h | h)
      · exact .inl h.symm
      · exact .inr h
    · rintro (h | h)
      · exact .inl h.symm
      · exact .inr h
theorem nobs_strs : ∀ l : List Str, nobs (l.map D.str) = true
  | [] => rfl
  | _ :: l => nobs_strs l
theorem nobs_ints : ∀ l : List Int, nobs (l.map D.int) = true
  | [] => rfl
  | _ :: l => nobs_ints l
theorem mem_strs {x : Str} {l : List Str} : D.str x ∈ l.map D.str ↔ x ∈ l := by
  rw [List.mem_map]
  constructor
  · rintro ⟨y, m, e⟩
    injection e with e
    exact e ▸ m
  · exact fun m => ⟨x, m, rfl⟩
theorem any_strs {x : Str} {l : List Str} : ((l.map D.str).any fun z => beq z (.str x)) = decide (x ∈ l) := by
  have := any_beq (x := .str x) rfl (nobs_strs l)
  rw [mem_strs] at this
  by_cases h : x ∈ l
  · rw [decide_eq_true h]; exact this.mpr h
  · rw [decide_eq_false h]
    cases e : (l.map D.str).any fun z => beq z (.str x) with
    | false => rfl
    | true => exact absurd (this.mp e) h
theorem ok_small {x : Str} (h : ∀ c ∈ tl x, c < 1114112) : PyData.strOk x = true := by
  unfold PyData.strOk
  rw [← Array.all_toList]
  exact List.all_eq_true.mpr fun c m => decide_eq_true (h c m)
theorem OkName.ok {x : Str} (h : OkName x) : PyData.strOk x = true := ok_small fun c m => by
  have := List.all_eq_true.mp h.all c m
  simp at this
  omega
theorem beq_by {x y : D} {p : Prop} [Decidable p] (hx : x.nob = true) (hy : y.nob = true) (h : x = y ↔ p) : beq x y = decide p := by
  have := beq_iff x y hx hy
  by_cases hp : p
  · rw [decide_eq_true hp]; exact this.mpr (h.mpr hp)
  · rw [decide_eq_false hp]
    cases e : beq x y with
    | false => rfl
    | true => exact absurd (h.mp (this.mp e)) hp
@[simp] theorem beq_ss {a b : Str} : beq (.str a) (.str b) = decide (a = b) := beq_by rfl rfl (by simp)
@[simp] theorem beq_ii {a b : Int} : beq (.int a) (.int b) = decide (a = b) := beq_by rfl rfl (by simp)
@[simp] theorem beq_ll : beq (.lst []) (.lst []) = true := rfl
@[simp] theorem beq_pair {a b c d : Str} : beq (.tup [.str a, .str b]) (.tup [.str c, .str d]) = decide (a = c ∧ b = d) := beq_by rfl rfl (by simp)
@[simp] theorem beq_pairI {a b c d : Int} : beq (.tup [.int a, .int b]) (.tup [.int c, .int d]) = decide (a = c ∧ b = d) := beq_by rfl rfl (by simp)
@[simp] theorem f_dr : ¬ (("own_doors" : Str) = "own_rooms") := by decide +kernel
@[simp] theorem f_rd : ¬ (("own_rooms" : Str) = "own_doors") := by decide +kernel
@[simp] theorem f_tr : ¬ (("own_text" : Str) = "own_rooms") := by decide +kernel
@[simp] theorem f_rt : ¬ (("own_rooms" : Str) = "own_text") := by decide +kernel
@[simp] theorem f_td : ¬ (("own_text" : Str) = "own_doors") := by decide +kernel
@[simp] theorem f_dt : ¬ (("own_doors" : Str) = "own_text") := by decide +kernel
end Pu

set_option Elab.async false
set_option linter.all false
set_option maxRecDepth 100000
/-! Pu: a program walked statement by statement; what stands behind is a name for so long. -/
namespace Pu
open PySem L2 PySem.Spec PyProof.Rows TL
theorem seq_i {a b : WS} {K : EndD} {ρ : En} (h : ∀ N : En → Prop, (∀ ρ', b K ρ' → N ρ') → a { K with nx := N } ρ) : wSeq a b K ρ := h _ fun _ h => h
theorem ifS_i {t : WT} {a b : WS} {K : EndD} {ρ : En} (h : ∀ A B : En → Prop, (∀ ρ', a K ρ' → A ρ') → (∀ ρ', b K ρ' → B ρ') → t K.ex ρ fun c ρ1 => if c = true then A ρ1 else B ρ1) : wIfS t a b K ρ := h _ _ (fun _ h => h) fun _ h => h
theorem keeps_i {ms : List Md} {n : Nat} {sp : DSp} {w : WS} (h : ∀ ds Q E, sp ds Q E → ds.length = ms.length → ∀ K : EndD, (∀ ρ, withN (outsE 0 ms ρ) (fun outs => Q (.fz .non) outs) → K.nx ρ) → (∀ s ρ, s.vl (withN (outsE 0 ms ρ) fun outs => Q s outs) → K.rt s ρ) → w K (startE 0 ms ds n)) : keeps ms n sp w :=
  fun ds Q E hl hs => h ds Q E hs hl _ (fun _ h => h) fun _ _ h => h
theorem atN {l : List D} {i : Nat} (h : i < l.length) : atI l (i : Int) = some l[i] := by
  simp [atI, ixN, h]
theorem at0 {a : D} {l : List D} : atI (a :: l) 0 = some a := atN (i := 0) (l := a :: l) (by simp)
theorem at1 {a b : D} {l : List D} : atI (a :: b :: l) 1 = some b := atN (i := 1) (l := a :: b :: l) (by simp)
theorem at2 {a b c : D} {l : List D} : atI (a :: b :: c :: l) 2 = some c := atN (i := 2) (l := a :: b :: c :: l) (by simp)
end Pu

set_option Elab.async false
set_option linter.all false
set_option maxRecDepth 100000
/-! Pu: sets of small numbers as bits. -/
namespace Pu
open PySem L2 PySem.Spec PyProof.Rows TL
def mk : Nat → (Nat → Bool) → Nat
  | 0, _ => 0
  | n + 1, p => mk n p + (if p n = true then 2 ^ n else 0)
theorem mk_lt : ∀ (n : Nat) (p : Nat → Bool), mk n p < 2 ^ n
  | 0, _ => Nat.one_pos
  | n + 1, p => by
    have := mk_lt n p
    unfold mk
    rw [Nat.pow_succ]
    split <;> omega
theorem mk_bit : ∀ (n : Nat) (p : Nat → Bool) (i : Nat), (mk n p).testBit i = (decide (i < n) && p i)
  | 0, p, i => by simp [mk]
  | n + 1, p, i => by
    have ih := mk_bit n p i
    have l := mk_lt n p
    unfold mk
    by_cases hp : p n = true
    · rw [if_pos hp, Nat.add_comm]
      rcases Nat.lt_trichotomy i n with h | h | h
      · rw [Nat.testBit_two_pow_add_gt h, ih]
        simp [h, Nat.lt_succ_of_lt h]
      · subst h
        rw [Nat.testBit_two_pow_add_eq, ih]
        simp [hp]
      · rw [Nat.testBit_lt_two_pow]
        · simp; omega
        · have : 2 ^ (n + 1) ≤ 2 ^ i := Nat.pow_le_pow_right (by decide) h
          rw [Nat.pow_succ] at this
          omega
    · rw [if_neg hp, Nat.add_zero, ih]
      by_cases h : i = n
      · subst h; simp [hp]
      · by_cases h2 : i < n
        · simp [h2, Nat.lt_succ_of_lt h2]
        · have : ¬ i < n + 1 := by omega
          simp [h2, this]
theorem mk_ext {n : Nat} {p q : Nat → Bool} (h : ∀ i, i < n → p i = q i) : mk n p = mk n q := by
  refine Nat.eq_of_testBit_eq fun i => ?_
  rw [mk_bit, mk_bit]
  by_cases hi : i < n
  · rw [h i hi]
  · simp [hi]
theorem mk_zero {n : Nat} {p : Nat → Bool} : mk n p = 0 ↔ ∀ i, i < n → p i = false := by
  constructor
  · intro h i hi
    have := mk_bit n p i
    rw [h] at this
    simpa [hi] using this.symm
  · intro h
    refine Nat.eq_of_testBit_eq fun i => ?_
    rw [mk_bit]
    by_cases hi : i < n
    · rw [h i hi]; simp
    · simp [hi]
theorem mk_or {n : Nat} {p q : Nat → Bool} : mk n p ||| mk n q = mk n fun i => p i || q i := by
  refine Nat.eq_of_testBit_eq fun i => ?_
  rw [Nat.testBit_or, mk_bit, mk_bit, mk_bit]
  cases decide (i < n) <;> rfl
theorem mk_and {n : Nat} {p q : Nat → Bool} : mk n p &&& mk n q = mk n fun i => p i && q i := by
  refine Nat.eq_of_testBit_eq fun i => ?_
  rw [Nat.testBit_and, mk_bit, mk_bit, mk_bit]
  cases decide (i < n) <;> simp
theorem mk_split (p q : Nat → Bool) : ∀ n, mk n (fun i => p i && q i) + mk n (fun i => p i && !q i) = mk n p
  | 0 => rfl
  | n + 1 => by
    have := mk_split p q n
    unfold mk
    cases h1 : p n <;> cases h2 : q n <;> simp [h1, h2] <;> omega
theorem mk_one {n j : Nat} (h : j < n) : mk n (fun i => decide (i = j)) = 2 ^ j := by
  refine Nat.eq_of_testBit_eq fun i => ?_
  rw [mk_bit, Nat.testBit_two_pow]
  by_cases hi : i = j
  · subst hi; simp [h]
  · have : ¬ j = i := fun e => hi e.symm
    simp [hi, this]
theorem mk_all : ∀ n, mk n (fun _ => true) + 1 = 2 ^ n
  | 0 => rfl
  | n + 1 => by
    have := mk_all n
    unfold mk
    rw [Nat.pow_succ]
    simp
    omega
theorem band_nn (a b : Nat) : Builtin.bitAnd (a : Int) (b : Int) = ((a &&& b : Nat) : Int) := by
  unfold Builtin.bitAnd
  rw [decide_eq_true (Int.natCast_nonneg a), decide_eq_true (Int.natCast_nonneg b)]
  simp
theorem bor_nn (a b : Nat) : Builtin.bitOr (a : Int) (b : Int) = ((a ||| b : Nat) : Int) := by
  unfold Builtin.bitOr Builtin.bitAnd
  rw [decide_eq_false (by unfold Builtin.bitNot; omega : ¬ 0 ≤ Builtin.bitNot (a : Int)), decide_eq_false (by unfold Builtin.bitNot; omega : ¬ 0 ≤ Builtin.bitNot (b : Int))]
  have e : ∀ x : Int, Builtin.bitNot (Builtin.bitNot x) = x := fun x => by unfold Builtin.bitNot; omega
  simp [e]
theorem band_mk {n : Nat} {p q : Nat → Bool} : Builtin.bitAnd (mk n p : Int) (Builtin.bitNot (mk n q : Int)) = (mk n (fun i => p i && !q i) : Int) := by
  unfold Builtin.bitAnd
  rw [decide_eq_true (Int.natCast_nonneg _), decide_eq_false (by unfold Builtin.bitNot; omega : ¬ 0 ≤ Builtin.bitNot (mk n q : Int))]
  have e : ∀ x : Int, Builtin.bitNot (Builtin.bitNot x) = x := fun x => by unfold Builtin.bitNot; omega
  have := mk_split p q n
  rw [← mk_and] at this
  simp [e]
  omega
theorem bor_mk {n : Nat} {p q : Nat → Bool} : Builtin.bitOr (mk n p : Int) (mk n q : Int) = (mk n (fun i => p i || q i) : Int) := by
  rw [bor_nn, mk_or]
theorem bit_mk {n : Nat} {p : Nat → Bool} {i : Nat} (h : i < n) : decide (Builtin.bitAnd ((mk n p : Int) / 2 ^ i) 1 = 1) = p i := by
  rw [bitAnd_m1]
  have e := mk_bit n p i
  rw [Nat.testBit_eq_decide_div_mod_eq] at e
  simp only [h, decide_true, Bool.true_and] at e
  rw [← e]
  have : ((mk n p : Int) / 2 ^ i % 2) = ((mk n p / 2 ^ i % 2 : Nat) : Int) := by simp
  rw [this]
  congr 1
  exact propext ⟨fun h => by exact_mod_cast h, fun h => by exact_mod_cast h⟩
end Pu

set_option Elab.async false
set_option linter.all false
set_option maxRecDepth 100000
/-! Pu: plain lists by place; sets that go from place to place. -/
namespace Pu
open PySem L2 PySem.Spec PyProof.Rows TL
theorem numbered_eq : ∀ (ds : List D) (k : Nat), numbered k ds = (List.range ds.length).map fun i => D.tup [.int ((k + i : Nat)), ds[i]?.getD .non]
  | [], _ => rfl
  | d :: ds, k => by
    rw [List.length_cons, List.range_succ_eq_map, List.map_cons, List.map_map]
    show D.tup [.int k, d] :: numbered (k + 1) ds = _
    rw [numbered_eq ds (k + 1)]
    congr 1
    refine List.map_congr_left fun i _ => ?_
    show D.tup [.int ((k + 1 + i : Nat)), ds[i]?.getD .non] = D.tup [.int ((k + (i + 1) : Nat)), (d :: ds)[i + 1]?.getD .non]
    rw [show k + 1 + i = k + (i + 1) by omega]
    rfl
theorem rangeD0 (n : Nat) : rangeD 0 n = (List.range n).map fun (k : Nat) => D.int k := by
  unfold rangeD
  simp
/-- the members of a set, as data -/
def nums (n : Nat) (p : Nat → Bool) : List Nat := (List.range n).filter p
def pick (rs : List Str) (p : Nat → Bool) : List Str := (nums rs.length p).map fun i => rs[i]?.getD default
theorem mem_nums {n : Nat} {p : Nat → Bool} {i : Nat} : i ∈ nums n p ↔ i < n ∧ p i = true := by simp [nums]
theorem nums_ext {n : Nat} {p q : Nat → Bool} (h : ∀ i, i < n → p i = q i) : nums n p = nums n q :=
  List.filter_congr fun i m => h i (List.mem_range.mp m)
theorem pick_ext {rs : List Str} {p q : Nat → Bool} (h : ∀ i, i < rs.length → p i = q i) : pick rs p = pick rs q := by
  unfold pick; rw [nums_ext h]
theorem pick_nil {rs : List Str} {p : Nat → Bool} : pick rs p = [] ↔ ∀ i, i < rs.length → p i = false := by
  unfold pick nums
  simp
theorem nums_pair (n : Nat) (p : Nat → Bool) : (nums n p).Pairwise (· < ·) := (List.pairwise_lt_range (n := n)).filter p
/-- rising lists with the same members -/
theorem rise_eq {α : Type} {r : α → α → Prop} (irr : ∀ a, ¬ r a a) (tr : ∀ a b c, r a b → r b c → r a c) : ∀ {l m : List α}, l.Pairwise r → m.Pairwise r → (∀ x, x ∈ l ↔ x ∈ m) → l = m
  | [], [], _, _, _ => rfl
  | [], b :: m, _, _, h => absurd ((h b).mpr (List.mem_cons_self ..)) (by simp)
  | a :: l, [], _, _, h => absurd ((h a).mp (List.mem_cons_self ..)) (by simp)
  | a :: l, b :: m, hl, hm, h => by
    rw [List.pairwise_cons] at hl hm
    have e : a = b := by
      rcases List.mem_cons.mp ((h a).mp (List.mem_cons_self ..)) with e | h1
      · exact e
      · rcases List.mem_cons.mp ((h b).mpr (List.mem_cons_self ..)) with e | h2
        · exact e.symm
        · exact absurd (tr _ _ _ (hl.1 b h2) (hm.1 a h1)) (irr a)
    subst e
    congr 1
    refine rise_eq irr tr hl.2 hm.2 fun x => ⟨fun mx => ?_, fun mx => ?_⟩
    · rcases List.mem_cons.mp ((h x).mp (List.mem_cons_of_mem _ mx)) with e | h1
      · subst e; exact absurd (hl.1 x mx) (irr x)
      · exact h1
    · rcases List.mem_cons.mp ((h x).mpr (List.mem_cons_of_mem _ mx)) with e | h1
      · subst e; exact absurd (hm.1 x mx) (irr x)
      · exact h1
/-- who is beside any: A; where one comes at night -/
def alone (n : Nat) (A : Nat → Nat → Bool) (i : Nat) : Bool := !(List.range n).any (A i)
def hop (n : Nat) (A : Nat → Nat → Bool) (i j : Nat) : Bool := if alone n A i = true then decide (j = i) else A i j
def come (n : Nat) (A : Nat → Nat → Bool) (p : Nat → Bool) (j : Nat) : Bool := (List.range n).any fun i => p i && hop n A i j
/-- behind k lots, ahead of the next -/
def stT (n : Nat) (A : Nat → Nat → Bool) (lot : Nat → Nat → Bool) (s : Nat → Bool) : Nat → Nat → Bool
  | 0 => s
  | k + 1 => come n A fun i => stT n A lot s k i && !lot k i
def stF (n : Nat) (A : Nat → Nat → Bool) (lot : Nat → Nat → Bool) (s : Nat → Bool) (k i : Nat) : Bool := stT n A lot s k i && !lot k i
theorem stT_succ {n : Nat} {A lot s k} : stT n A lot s (k + 1) = come n A (stF n A lot s k) := rfl
theorem come_or {n : Nat} {A : Nat → Nat → Bool} {α : Type} (l : List α) (g : α → Nat → Bool) (j : Nat) : come n A (fun i => l.any fun a => g a i) j = l.any fun a => come n A (g a) j := by
  rw [Bool.eq_iff_iff]
  simp only [come, List.any_eq_true, Bool.and_eq_true]
  constructor
  · rintro ⟨i, hi, ⟨a, ha, hg⟩, hh⟩
    exact ⟨a, ha, i, hi, hg, hh⟩
  · rintro ⟨a, ha, i, hi, hg, hh⟩
    exact ⟨i, hi, ⟨a, ha, hg⟩, hh⟩
theorem come_ext {n : Nat} {A : Nat → Nat → Bool} {p q : Nat → Bool} (h : ∀ i, i < n → p i = q i) (j : Nat) : come n A p j = come n A q j := by
  rw [Bool.eq_iff_iff]
  simp only [come, List.any_eq_true, Bool.and_eq_true, List.mem_range]
  constructor
  · rintro ⟨i, hi, hp, hh⟩
    exact ⟨i, hi, by rw [← h i hi]; exact hp, hh⟩
  · rintro ⟨i, hi, hp, hh⟩
    exact ⟨i, hi, by rw [h i hi]; exact hp, hh⟩
/-- all starts together -/
theorem stT_starts {n : Nat} {A lot : Nat → Nat → Bool} : ∀ (k j : Nat), j < n → stT n A lot (fun _ => true) k j = (List.range n).any fun s => stT n A lot (fun i => decide (i = s)) k j
  | 0, j, hj => by
    symm
    show ((List.range n).any fun s => decide (j = s)) = true
    rw [List.any_eq_true]
    exact ⟨j, List.mem_range.mpr hj, by simp⟩
  | k + 1, j, hj => by
    show come n A _ j = _
    rw [come_ext (q := fun i => (List.range n).any fun s => stT n A lot (fun i => decide (i = s)) k i && !lot k i) (fun i hi => ?_), come_or]
    · rfl
    · show (stT n A lot (fun _ => true) k i && !lot k i) = _
      rw [stT_starts k i hi]
      cases lot k i <;> simp
theorem stF_starts {n : Nat} {A lot : Nat → Nat → Bool} {k j : Nat} (hj : j < n) : stF n A lot (fun _ => true) k j = (List.range n).any fun s => stF n A lot (fun i => decide (i = s)) k j := by
  unfold stF
  rw [stT_starts k j hj]
  cases lot k j <;> simp
/-- rooms in another sequence -/
theorem alone_map {n : Nat} {A B : Nat → Nat → Bool} {g : Nat → Nat} (hg : ∀ i, i < n → g i < n) (sj : ∀ j, j < n → ∃ i, i < n ∧ g i = j) (hA : ∀ i j, i < n → j < n → B (g i) (g j) = A i j) {i : Nat} (hi : i < n) : alone n B (g i) = alone n A i := by
  unfold alone
  congr 1
  rw [Bool.eq_iff_iff]
  simp only [List.any_eq_true, List.mem_range]
  constructor
  · rintro ⟨j, hj, h⟩
    obtain ⟨j', hj', rfl⟩ := sj j hj
    exact ⟨j', hj', by rw [← hA i j' hi hj']; exact h⟩
  · rintro ⟨j, hj, h⟩
    exact ⟨g j, hg j hj, by rw [hA i j hi hj]; exact h⟩
theorem stT_map {n : Nat} {A B lot lot' : Nat → Nat → Bool} {g : Nat → Nat} (hg : ∀ i, i < n → g i < n) (inj : ∀ i j, i < n → j < n → g i = g j → i = j) (sj : ∀ j, j < n → ∃ i, i < n ∧ g i = j) (hA : ∀ i j, i < n → j < n → B (g i) (g j) = A i j) {m : Nat} (hL : ∀ k i, k < m → i < n → lot' k (g i) = lot k i) :
    ∀ k, k ≤ m → ∀ i, i < n → stT n B lot' (fun _ => true) k (g i) = stT n A lot (fun _ => true) k i
  | 0, _, _, _ => rfl
  | k + 1, hk, i, hi => by
    show come n B _ (g i) = come n A _ i
    rw [Bool.eq_iff_iff]
    simp only [come, List.any_eq_true, List.mem_range, Bool.and_eq_true]
    have hh : ∀ a, a < n → hop n B (g a) (g i) = hop n A a i := fun a ha => by
      unfold hop
      rw [alone_map hg sj hA ha, hA a i ha hi]
      congr 1
      rw [Bool.eq_iff_iff, decide_eq_true_iff, decide_eq_true_iff]
      exact ⟨fun e => inj _ _ hi ha e, fun e => by rw [e]⟩
    have ih := stT_map hg inj sj hA hL k (by omega)
    constructor
    · rintro ⟨b, hb, ⟨h1, h2⟩, h3⟩
      obtain ⟨a, ha, rfl⟩ := sj b hb
      exact ⟨a, ha, ⟨by rw [← ih a ha]; exact h1, by rw [← hL k a (by omega) ha]; exact h2⟩, by rw [← hh a ha]; exact h3⟩
    · rintro ⟨a, ha, ⟨h1, h2⟩, h3⟩
      exact ⟨g a, hg a ha, ⟨by rw [ih a ha]; exact h1, by rw [hL k a (by omega) ha]; exact h2⟩, by rw [hh a ha]; exact h3⟩
end Pu

set_option Elab.async false
set_option linter.all false
set_option maxRecDepth 100000
/-! Pu: comprehensions and loops over lists that are known by a plain list. -/
namespace Pu
open PySem L2 PySem.Spec PyProof.Rows TL
theorem lcA' {α : Type} {wi : WI} {g : WG} {tt : WT} {te : WE} {vs : List Nat} {E : EX} {ρ : En} {Q : Sl → En → Prop} (ρ1 : En) (its : List α) (it : α → D) (f : α → Option D) (hi : ∀ P : List D → En → Prop, P (its.map it) ρ1 → wi E ρ P) (hl : its.length ≤ sizeLine)
    (hb : ∀ x ∈ its, ∀ (P : D → En → Prop) (N : En → Prop), (∀ d, f x = some d → P d (wipeE ρ1 vs)) → (f x = none → N (wipeE ρ1 vs)) →
      g (.fz (it x)) (wipeE ρ1 vs) fun ρ2 => tt noEX ρ2 fun b ρ3 => if b = true then te noEX ρ3 fun s ρ4 => s.fr fun d => P d (wipeE ρ4 vs) else N (wipeE ρ3 vs))
    (hq : Q (.ow (.lst (its.filterMap f))) (backE ρ1 (wipeE ρ1 vs) vs)) : wLc wi g tt te vs E ρ Q := by
  refine hi _ ⟨fun i acc ρ' => ρ' = wipeE ρ1 vs ∧ acc = (its.take i).filterMap f, ⟨rfl, rfl⟩, ?_, ?_⟩
  · rintro i x acc ρ' e ⟨rfl, rfl⟩
    rw [List.getElem?_map] at e
    obtain ⟨y, ey, rfl⟩ := Option.map_eq_some_iff.mp e
    have ht : its.take (i + 1) = its.take i ++ [y] := by rw [List.take_add_one, ey]; rfl
    have hi := (List.getElem?_eq_some_iff.mp ey).1
    refine hb y (List.mem_of_getElem? ey) (fun d ρ' => ((its.take i).filterMap f).length < sizeLine ∧ ρ' = wipeE ρ1 vs ∧ (its.take i).filterMap f ++ [d] = (its.take (i + 1)).filterMap f) (fun ρ' => ρ' = wipeE ρ1 vs ∧ (its.take i).filterMap f = (its.take (i + 1)).filterMap f) (fun d hd => ⟨?_, rfl, ?_⟩) fun hn => ⟨rfl, ?_⟩
    · have h1 := List.length_filterMap_le f (its.take i)
      have h2 := List.length_take_le i its
      omega
    · rw [ht, List.filterMap_append]
      simp [hd]
    · rw [ht, List.filterMap_append]
      simp [hn]
  · rintro acc ρ' ⟨rfl, rfl⟩
    rw [List.length_map, List.take_length]
    exact hq
/-- each item kept, made another -/
theorem lcM' {α : Type} {wi : WI} {g : WG} {te : WE} {vs : List Nat} {E : EX} {ρ : En} {Q : Sl → En → Prop} (ρ1 : En) (its : List α) (it : α → D) (v : α → D) (hi : ∀ P : List D → En → Prop, P (its.map it) ρ1 → wi E ρ P) (hl : its.length ≤ sizeLine)
    (hb : ∀ x ∈ its, ∀ P : D → En → Prop, P (v x) (wipeE ρ1 vs) → g (.fz (it x)) (wipeE ρ1 vs) fun ρ2 => te noEX ρ2 fun s ρ4 => s.fr fun d => P d (wipeE ρ4 vs))
    (hq : Q (.ow (.lst (its.map v))) (backE ρ1 (wipeE ρ1 vs) vs)) : wLc wi g tYes te vs E ρ Q := by
  refine lcA' ρ1 its it (fun x => some (v x)) hi hl (fun x m P N h1 _ => hb x m P (h1 _ rfl)) ?_
  rw [show (fun x => some (v x)) = some ∘ v from rfl, List.filterMap_eq_map]
  exact hq
/-- some items kept, made others -/
theorem lcB' {α : Type} {wi : WI} {g : WG} {tt : WT} {te : WE} {vs : List Nat} {E : EX} {ρ : En} {Q : Sl → En → Prop} (ρ1 : En) (its : List α) (it : α → D) (p : α → Bool) (v : α → D) (hi : ∀ P : List D → En → Prop, P (its.map it) ρ1 → wi E ρ P) (hl : its.length ≤ sizeLine)
    (hb : ∀ x ∈ its, ∀ (P : D → En → Prop) (N : En → Prop), (p x = true → P (v x) (wipeE ρ1 vs)) → (p x = false → N (wipeE ρ1 vs)) →
      g (.fz (it x)) (wipeE ρ1 vs) fun ρ2 => tt noEX ρ2 fun b ρ3 => if b = true then te noEX ρ3 fun s ρ4 => s.fr fun d => P d (wipeE ρ4 vs) else N (wipeE ρ3 vs))
    (hq : Q (.ow (.lst ((its.filter p).map v))) (backE ρ1 (wipeE ρ1 vs) vs)) : wLc wi g tt te vs E ρ Q := by
  refine lcA' ρ1 its it (fun x => if p x = true then some (v x) else none) hi hl (fun x m P N h1 h2 => hb x m P N (fun e => h1 _ (by rw [if_pos e])) fun e => h2 (by simp [e])) ?_
  have e : its.filterMap (fun x => if p x = true then some (v x) else none) = (its.filter p).map v := by
    clear hi hl hb hq
    induction its with
    | nil => rfl
    | cons a l ih => by_cases h : p a = true <;> simp [h, ih]
  rw [e]
  exact hq
/-- a loop whose slots are known at each turn, but for four at most -/
theorem forJ' {α : Type} {wi : WI} {g : WG} {body : WS} {ρ : En} {K : EndD} (ρ1 : En) (its : List α) (it : α → D) (hi : ∀ P : List D → En → Prop, P (its.map it) ρ1 → wi K.ex ρ P) (st : Nat → Sl → Sl → Sl → Sl → En) (h0 : ∃ a b c d, ρ1 = st 0 a b c d)
    (hb : ∀ i (h : i < its.length) a b c d (N : En → Prop), (∀ a b c d, N (st (i + 1) a b c d)) → g (.fz (it its[i])) (st i a b c d) fun ρ2 => body { K with nx := N, ct := N, bk := K.nx } ρ2)
    (hq : ∀ a b c d, K.nx (st its.length a b c d)) : wFor wi g body K ρ := by
  refine hi _ ⟨fun i ρ => ∃ a b c d, ρ = st i a b c d, h0, ?_, ?_⟩
  · rintro i x ρ e ⟨a, b, c, d, rfl⟩
    rw [List.getElem?_map] at e
    obtain ⟨y, ey, rfl⟩ := Option.map_eq_some_iff.mp e
    obtain ⟨h, e⟩ := List.getElem?_eq_some_iff.mp ey
    subst e
    exact hb i h a b c d _ fun a b c d => ⟨a, b, c, d, rfl⟩
  · rintro ρ ⟨a, b, c, d, rfl⟩
    rw [List.length_map]
    exact hq a b c d
/-- a loop by what holds at each turn -/
theorem forW' {α : Type} {wi : WI} {g : WG} {body : WS} {ρ : En} {K : EndD} (ρ1 : En) (its : List α) (it : α → D) (hi : ∀ P : List D → En → Prop, P (its.map it) ρ1 → wi K.ex ρ P) (W : Nat → En → Prop) (h0 : W 0 ρ1)
    (hb : ∀ i (h : i < its.length) ρ (N : En → Prop), W i ρ → (∀ ρ', W (i + 1) ρ' → N ρ') → g (.fz (it its[i])) ρ fun ρ2 => body { K with nx := N, ct := N, bk := K.nx } ρ2)
    (hq : ∀ ρ, W its.length ρ → K.nx ρ) : wFor wi g body K ρ := by
  refine hi _ ⟨W, h0, ?_, ?_⟩
  · rintro i x ρ e w
    rw [List.getElem?_map] at e
    obtain ⟨y, ey, rfl⟩ := Option.map_eq_some_iff.mp e
    obtain ⟨h, e⟩ := List.getElem?_eq_some_iff.mp ey
    subst e
    exact hb i h ρ _ w fun _ h => h
  · intro ρ w
    rw [List.length_map] at w
    exact hq ρ w
/-- a comprehension by what holds at each turn -/
theorem lcW' {α : Type} {wi : WI} {g : WG} {te : WE} {vs : List Nat} {E : EX} {ρ : En} {Q : Sl → En → Prop} (ρ1 : En) (its : List α) (it : α → D) (hi : ∀ P : List D → En → Prop, P (its.map it) ρ1 → wi E ρ P) (W : Nat → List D → En → Prop) (h0 : W 0 [] (wipeE ρ1 vs))
    (hb : ∀ i (h : i < its.length) acc ρ' (P : D → En → Prop), W i acc ρ' → (∀ d ρ4, acc.length < sizeLine → W (i + 1) (acc ++ [d]) (wipeE ρ4 vs) → P d ρ4) → g (.fz (it its[i])) ρ' fun ρ2 => te noEX ρ2 fun s ρ4 => s.fr fun d => P d ρ4)
    (hq : ∀ acc ρ', W its.length acc ρ' → Q (.ow (.lst acc)) (backE ρ1 ρ' vs)) : wLc wi g tYes te vs E ρ Q := by
  refine hi _ ⟨W, h0, ?_, ?_⟩
  · rintro i x acc ρ' e w
    rw [List.getElem?_map] at e
    obtain ⟨y, ey, rfl⟩ := Option.map_eq_some_iff.mp e
    obtain ⟨h, e⟩ := List.getElem?_eq_some_iff.mp ey
    subst e
    exact hb i h acc ρ' (fun d ρ4 => acc.length < sizeLine ∧ W (i + 1) (acc ++ [d]) (wipeE ρ4 vs)) w fun _ _ h1 h2 => ⟨h1, h2⟩
  · intro acc ρ' w
    rw [List.length_map] at w
    exact hq acc ρ' w
theorem lcA {α : Type} {wi : WI} {g : WG} {tt : WT} {te : WE} {vs : List Nat} {E : EX} {ρ : En} {Q : Sl → En → Prop} (its : List α) (it : α → D) (f : α → Option D) (hi : ∀ P : List D → En → Prop, P (its.map it) ρ → wi E ρ P) (hl : its.length ≤ sizeLine)
    (hb : ∀ x ∈ its, ∀ (P : D → En → Prop) (N : En → Prop), (∀ d, f x = some d → P d (wipeE ρ vs)) → (f x = none → N (wipeE ρ vs)) →
      g (.fz (it x)) (wipeE ρ vs) fun ρ2 => tt noEX ρ2 fun b ρ3 => if b = true then te noEX ρ3 fun s ρ4 => s.fr fun d => P d (wipeE ρ4 vs) else N (wipeE ρ3 vs))
    (hq : Q (.ow (.lst (its.filterMap f))) (backE ρ (wipeE ρ vs) vs)) : wLc wi g tt te vs E ρ Q := lcA' ρ its it f hi hl hb hq
theorem lcM {α : Type} {wi : WI} {g : WG} {te : WE} {vs : List Nat} {E : EX} {ρ : En} {Q : Sl → En → Prop} (its : List α) (it : α → D) (v : α → D) (hi : ∀ P : List D → En → Prop, P (its.map it) ρ → wi E ρ P) (hl : its.length ≤ sizeLine)
    (hb : ∀ x ∈ its, ∀ P : D → En → Prop, P (v x) (wipeE ρ vs) → g (.fz (it x)) (wipeE ρ vs) fun ρ2 => te noEX ρ2 fun s ρ4 => s.fr fun d => P d (wipeE ρ4 vs))
    (hq : Q (.ow (.lst (its.map v))) (backE ρ (wipeE ρ vs) vs)) : wLc wi g tYes te vs E ρ Q := lcM' ρ its it v hi hl hb hq
theorem lcB {α : Type} {wi : WI} {g : WG} {tt : WT} {te : WE} {vs : List Nat} {E : EX} {ρ : En} {Q : Sl → En → Prop} (its : List α) (it : α → D) (p : α → Bool) (v : α → D) (hi : ∀ P : List D → En → Prop, P (its.map it) ρ → wi E ρ P) (hl : its.length ≤ sizeLine)
    (hb : ∀ x ∈ its, ∀ (P : D → En → Prop) (N : En → Prop), (p x = true → P (v x) (wipeE ρ vs)) → (p x = false → N (wipeE ρ vs)) →
      g (.fz (it x)) (wipeE ρ vs) fun ρ2 => tt noEX ρ2 fun b ρ3 => if b = true then te noEX ρ3 fun s ρ4 => s.fr fun d => P d (wipeE ρ4 vs) else N (wipeE ρ3 vs))
    (hq : Q (.ow (.lst ((its.filter p).map v))) (backE ρ (wipeE ρ vs) vs)) : wLc wi g tt te vs E ρ Q := lcB' ρ its it p v hi hl hb hq
theorem forJ {α : Type} {wi : WI} {g : WG} {body : WS} {ρ : En} {K : EndD} (its : List α) (it : α → D) (hi : ∀ P : List D → En → Prop, P (its.map it) ρ → wi K.ex ρ P) (st : Nat → Sl → Sl → Sl → Sl → En) (h0 : ∃ a b c d, ρ = st 0 a b c d)
    (hb : ∀ i (h : i < its.length) a b c d (N : En → Prop), (∀ a b c d, N (st (i + 1) a b c d)) → g (.fz (it its[i])) (st i a b c d) fun ρ2 => body { K with nx := N, ct := N, bk := K.nx } ρ2)
    (hq : ∀ a b c d, K.nx (st its.length a b c d)) : wFor wi g body K ρ := forJ' ρ its it hi st h0 hb hq
theorem forW {α : Type} {wi : WI} {g : WG} {body : WS} {ρ : En} {K : EndD} (its : List α) (it : α → D) (hi : ∀ P : List D → En → Prop, P (its.map it) ρ → wi K.ex ρ P) (W : Nat → En → Prop) (h0 : W 0 ρ)
    (hb : ∀ i (h : i < its.length) ρ (N : En → Prop), W i ρ → (∀ ρ', W (i + 1) ρ' → N ρ') → g (.fz (it its[i])) ρ fun ρ2 => body { K with nx := N, ct := N, bk := K.nx } ρ2)
    (hq : ∀ ρ, W its.length ρ → K.nx ρ) : wFor wi g body K ρ := forW' ρ its it hi W h0 hb hq
theorem lcW {α : Type} {wi : WI} {g : WG} {te : WE} {vs : List Nat} {E : EX} {ρ : En} {Q : Sl → En → Prop} (its : List α) (it : α → D) (hi : ∀ P : List D → En → Prop, P (its.map it) ρ → wi E ρ P) (W : Nat → List D → En → Prop) (h0 : W 0 [] (wipeE ρ vs))
    (hb : ∀ i (h : i < its.length) acc ρ' (P : D → En → Prop), W i acc ρ' → (∀ d ρ4, acc.length < sizeLine → W (i + 1) (acc ++ [d]) (wipeE ρ4 vs) → P d ρ4) → g (.fz (it its[i])) ρ' fun ρ2 => te noEX ρ2 fun s ρ4 => s.fr fun d => P d ρ4)
    (hq : ∀ acc ρ', W its.length acc ρ' → Q (.ow (.lst acc)) (backE ρ ρ' vs)) : wLc wi g tYes te vs E ρ Q := lcW' ρ its it hi W h0 hb hq
/-- some items kept, made others, while the slots may change a little -/
theorem lcI {α : Type} {wi : WI} {g : WG} {tt : WT} {te : WE} {vs : List Nat} {E : EX} {ρ : En} {Q : Sl → En → Prop} (ρ1 : En) (its : List α) (it : α → D) (p : α → Bool) (v : α → D) (I : En → Prop) (hi : ∀ P : List D → En → Prop, P (its.map it) ρ1 → wi E ρ P) (hl : its.length ≤ sizeLine) (h0 : I (wipeE ρ1 vs))
    (hb : ∀ x ∈ its, ∀ ρ', I ρ' → ∀ (P : D → En → Prop) (N : En → Prop), (∀ ρ4, p x = true → I (wipeE ρ4 vs) → P (v x) ρ4) → (∀ ρ3, p x = false → I (wipeE ρ3 vs) → N ρ3) →
      g (.fz (it x)) ρ' fun ρ2 => tt noEX ρ2 fun b ρ3 => if b = true then te noEX ρ3 fun s ρ4 => s.fr fun d => P d ρ4 else N ρ3)
    (hq : ∀ ρ', I ρ' → Q (.ow (.lst ((its.filter p).map v))) (backE ρ1 ρ' vs)) : wLc wi g tt te vs E ρ Q := by
  refine hi _ ⟨fun i acc ρ' => I ρ' ∧ acc = ((its.take i).filter p).map v, ⟨h0, rfl⟩, ?_, ?_⟩
  · rintro i x acc ρ' e ⟨hI, rfl⟩
    rw [List.getElem?_map] at e
    obtain ⟨y, ey, rfl⟩ := Option.map_eq_some_iff.mp e
    have ht : its.take (i + 1) = its.take i ++ [y] := by rw [List.take_add_one, ey]; rfl
    have hi := (List.getElem?_eq_some_iff.mp ey).1
    refine hb y (List.mem_of_getElem? ey) ρ' hI (fun d ρ4 => (((its.take i).filter p).map v).length < sizeLine ∧ I (wipeE ρ4 vs) ∧ ((its.take i).filter p).map v ++ [d] = ((its.take (i + 1)).filter p).map v) (fun ρ3 => I (wipeE ρ3 vs) ∧ ((its.take i).filter p).map v = ((its.take (i + 1)).filter p).map v) (fun ρ4 hp h => ⟨?_, h, ?_⟩) fun ρ3 hp h => ⟨h, ?_⟩
    · have h1 := List.length_filter_le p (its.take i)
      have h2 := List.length_take_le i its
      rw [List.length_map]
      omega
    · rw [ht, List.filter_append, List.map_append]
      simp [hp]
    · rw [ht, List.filter_append, List.map_append]
      simp [hp]
  · rintro acc ρ' ⟨hI, rfl⟩
    rw [List.length_map, List.take_length]
    exact hq ρ' hI
theorem wLc_eq {wi : WI} {g : WG} {tt : WT} {te : WE} {vs : List Nat} {E : EX} {ρ : En} {Q : Sl → En → Prop} (h : wi E ρ fun items ρ1 => wLc (fun _ _ P => P items ρ1) g tt te vs E ρ1 Q) : wLc wi g tt te vs E ρ Q := h
theorem wFor_eq {wi : WI} {g : WG} {body : WS} {K : EndD} {ρ : En} (h : wi K.ex ρ fun items ρ1 => wFor (fun _ _ P => P items ρ1) g body K ρ1) : wFor wi g body K ρ := h
theorem blsOf_m {α : Type} (l : List α) (f : α → Bool) : blsOf (l.map fun x => D.bl (f x)) = some (l.map f) := by
  rw [show (l.map fun x => D.bl (f x)) = (l.map f).map D.bl by rw [List.map_map]; rfl, blsOf_map]
theorem intsOf_m {α : Type} (l : List α) (f : α → Int) : intsOf (l.map fun x => D.int (f x)) = some (l.map f) := by
  rw [show (l.map fun x => D.int (f x)) = (l.map f).map D.int by rw [List.map_map]; rfl, intsOf_map]
theorem strsOf_m {α : Type} (l : List α) (f : α → Str) : strsOf (l.map fun x => D.str (f x)) = some (l.map f) := by
  rw [show (l.map fun x => D.str (f x)) = (l.map f).map D.str by rw [List.map_map]; rfl, strsOf_map]
/-! rooms by place -/
def nm (rs : List Str) (i : Nat) : Str := rs[i]?.getD default
theorem nm_at {rs : List Str} {i : Nat} (h : i < rs.length) : rs[i]? = some (nm rs i) := by simp [nm, h]
theorem nm_mem {rs : List Str} {i : Nat} (h : i < rs.length) : nm rs i ∈ rs := List.mem_of_getElem? (nm_at h)
theorem nm_list (rs : List Str) : rs = (List.range rs.length).map (nm rs) := by
  refine List.ext_getElem? fun i => ?_
  by_cases h : i < rs.length
  · rw [nm_at h]; simp [h]
  · rw [List.getElem?_eq_none (by omega), List.getElem?_eq_none (by simp; omega)]
theorem nm_inj {rs : List Str} (nd : rs.Nodup) {i j : Nat} (hi : i < rs.length) (hj : j < rs.length) (e : nm rs i = nm rs j) : i = j := by
  have h1 := nm_at hi
  have h2 := nm_at hj
  rw [e, ← h2] at h1
  exact (List.getElem?_inj hi nd).mp h1
theorem pick_eq (rs : List Str) (p : Nat → Bool) : pick rs p = (nums rs.length p).map (nm rs) := rfl
theorem mem_pick {rs : List Str} (nd : rs.Nodup) {p : Nat → Bool} {i : Nat} (hi : i < rs.length) : nm rs i ∈ pick rs p ↔ p i = true := by
  rw [pick_eq, List.mem_map]
  constructor
  · rintro ⟨j, m, e⟩
    obtain ⟨hj, hp⟩ := mem_nums.mp m
    rw [← nm_inj nd hj hi e]; exact hp
  · exact fun h => ⟨i, mem_nums.mpr ⟨hi, h⟩, rfl⟩
theorem pick_sub {rs : List Str} {p : Nat → Bool} {x : Str} (h : x ∈ pick rs p) : x ∈ rs := by
  obtain ⟨j, m, e⟩ := List.mem_map.mp h
  exact e ▸ nm_mem (mem_nums.mp m).1
theorem pick_len (rs : List Str) (p : Nat → Bool) : (pick rs p).length ≤ rs.length := by
  rw [pick_eq, List.length_map]
  have := List.length_filter_le p (List.range rs.length)
  rw [List.length_range] at this
  exact this
theorem pick_filter {rs : List Str} (nd : rs.Nodup) (p : Nat → Bool) : rs.filter (fun r => decide (r ∈ pick rs p)) = pick rs p := by
  conv => lhs; rw [nm_list rs]
  rw [List.filter_map]
  show List.map (nm rs) _ = List.map (nm rs) _
  congr 1
  rw [show (List.map (nm rs) (List.range rs.length)) = rs from (nm_list rs).symm]
  refine List.filter_congr fun i m => ?_
  have := mem_pick (p := p) nd (List.mem_range.mp m)
  simp only [Function.comp]
  rw [Bool.eq_iff_iff, decide_eq_true_iff]
  exact this
/-- some rooms, as they are in the house -/
theorem filter_pick {rs : List Str} (q : Str → Bool) : rs.filter q = pick rs fun i => q (nm rs i) := by
  conv => lhs; rw [nm_list rs]
  rw [List.filter_map]
  rfl
theorem sum_mk (p : Nat → Bool) : ∀ n, (((List.range n).filter p).map fun i => (2 : Int) ^ i).sum = (mk n p : Int)
  | 0 => rfl
  | n + 1 => by
    rw [List.range_succ, List.filter_append, List.map_append, List.sum_append, sum_mk p n]
    rw [show mk (n + 1) p = mk n p + (if p n = true then 2 ^ n else 0) from rfl]
    by_cases h : p n = true <;> simp [h]
end Pu

set_option Elab.async false
set_option linter.all false
set_option maxRecDepth 100000
/-! Pu: the end, for a def that is entered where no guard stands. -/
namespace Pu
open PySem L2 PySem.Spec PyProof.Rows TL
/-- the law called, behind the module's top -/
theorem law_go {P : Program} {w : World} {K : PySem.W.Frag} {mg mb : Str → Option Value} {k : Nat} {fa p : Addr} {fd : FuncData} {x : Str} {sp : Sp} {t : Shared} {us : List Value} {zs : List Int}
    (inK : K.In t.heap) (nsg : t.heap.Ns mainGlobals mg) (nsb : t.heap.Ns builtinsNs mb) (nb : ∀ y : Str, y ≠ "__name__" → mb y = bootBuiltins y) (nl : t.heap.NoLimit) (ng : t.gens = #[])
    (atp : t.heap.get? p = some { cls := .type "list", data := .seq us.toArray }) (are : IntsAre us zs) (few : zs.length ≤ sizeLine) (room : Room k callerA)
    (G : ∀ b : Heap, K.In b → b.Ns mainGlobals mg → FnG P w K mg b k fa fd [x] sp) (bd : ∀ (s : Shared) (u : Value), BindsTo s fd ⟨[u], []⟩ [(x, u)])
    (good : ∀ H : Hp, Only H → SqL K H p (zs.map V.int) → sp [.ref p] H (fun v _ => v = .bl true) fun _ _ _ => False) :
    codeAny (model P w) callerA (.call (.ref fa) ⟨[.ref p], []⟩) (fun r s' => r = .ok (.ret (.bool true)) ∧ OldK t.heap s'.heap ∧ s'.os = t.os ∧ AllBare s'.gens) t := by
  have rel := vals_ints are
  have hlen := are.length
  have main : ∀ H : Hp, Only H → SqL K H p (zs.map V.int) → HOk P w H t.heap → (∀ c, H c ≠ none → c = p) → (H p ≠ none → K.lookup p = none) →
      codeAny (model P w) callerA (.call (.ref fa) ⟨[.ref p], []⟩) (fun r s' => r = .ok (.ret (.bool true)) ∧ OldK t.heap s'.heap ∧ s'.os = t.os ∧ AllBare s'.gens) t := by
    intro H only seq ho one notK
    have hid : ∀ {c : Addr} {o : Obj}, t.heap.get? c = some o → H c = none → (hidT t.heap H).get? c = some o := fun e n => hidT_get e n
    have notD : ∀ {c : Addr} {o : Obj} {es : Array DictEntry} {ep : Nat}, t.heap.get? c = some o → o.data = .dict es ep → H c = none := fun {c o es ep} e d => by
      cases hc : H c with
      | none => rfl
      | some z =>
        obtain rfl : c = p := one c (by rw [hc]; simp)
        rw [atp] at e
        cases e
        cases (show Data.seq us.toArray _ = Data.dict es ep from d)
    have ns : ∀ {c : Addr} {m : Str → Option Value}, t.heap.Ns c m → (hidT t.heap H).Ns c m := fun {c m} ⟨o, es, ep, e, d, r⟩ => ⟨o, es, ep, hid e (notD e d), d, r⟩
    have inB : K.In (hidT t.heap H) := fun c o e => hid (inK c o e) (by
      cases hc : H c with
      | none => rfl
      | some z =>
        obtain rfl : c = p := one c (by rw [hc]; simp)
        rw [notK (by rw [hc]; simp)] at e
        cases e)
    have md : Mod K mg (hidT t.heap H) := ⟨inB, ns nsg, ⟨mb, ns nsb, nb⟩, let ⟨mc, e1, e2⟩ := nl; ⟨mc, ns e1, e2⟩⟩
    have env : Env0 P w K mg (hidT t.heap H) callerA [] t H := ⟨rfl, md, fun c o e => of_hidT e, Nat.le_of_eq (hidT_size _ _), trivial, fun c mc => absurd (show c ∈ ([] : List Addr) from mc) (by simp), ho, .of_eq ng⟩
    refine codeAny_mono ((G _ inB (ns nsg)).go callerA [] t H ⟨[.ref p], []⟩ [.ref p] [.ref p] _ _ room rfl env (bd t (.ref p)) (.cons rfl .nil) (good H only seq)) fun r s' q => ?_
    cases r with
    | error e =>
      obtain ⟨_, _, _, _, _, _, _, _, _, _, _, _, no⟩ := (show L2.CX P w [] H t (fun _ _ _ => False) e s' from q)
      exact no.elim
    | ok fl =>
      cases fl with
      | ret u =>
        obtain ⟨v, H', eos, bare, un, ho', rv, hv⟩ := q
        obtain rfl : v = .bl true := hv
        obtain rfl : u = Value.bool true := rv
        refine ⟨rfl, OldK.of_keep fun c o e => ?_, eos, bare⟩
        cases hc : H c with
        | none => exact un.keep c o e hc (by intro z; exact absurd (show c ∈ ([] : List Addr) from z) (by simp)) (by simp)
        | some z =>
          rcases only c with n | ⟨ob, xs, n⟩
          · rw [hc] at n; cases n
          · obtain ⟨e1, _⟩ := ho c _ n
            obtain ⟨e2, _⟩ := ho' c _ (un.frzs c ob _ n)
            rw [e] at e1
            cases e1
            exact e2
      | _ => exact False.elim q
  cases hp : K.lookup p with
  | some o =>
    have e := inK p o hp
    rw [atp] at e
    cases e
    exact main (fun _ => none) (fun _ => .inl rfl) (.inr ⟨_, us.toArray, _, hp, rfl, rfl, rfl, by rw [List.size_toArray, hlen]; exact few, by simpa using rel⟩) (fun c u z => by cases (show (none : Option HO) = some u from z)) (fun c z => absurd rfl z) fun z => absurd rfl z
  | none =>
    have at1 : ∀ c, (if c = p then some (HO.frz { cls := .type "list", data := .seq us.toArray } (.lst (zs.map V.int))) else none) ≠ none → c = p := fun c n => by
      by_cases hc : c = p
      · exact hc
      · exact absurd (if_neg hc) n
    refine main (fun c => if c = p then some (.frz { cls := .type "list", data := .seq us.toArray } (.lst (zs.map V.int))) else none) (fun c => ?_) (.inl (.inr ⟨{ cls := .type "list", data := .seq us.toArray }, if_pos rfl⟩)) (fun c u z => ?_) at1 fun _ => hp
    · by_cases hc : c = p
      · exact .inr ⟨_, _, if_pos hc⟩
      · exact .inl (if_neg hc)
    · obtain rfl : c = p := at1 c (fun n => by rw [show (if c = p then some (HO.frz { cls := .type "list", data := .seq us.toArray } (.lst (zs.map V.int))) else none) = some u from z] at n; cases n)
      cases (if_pos rfl).symm.trans z
      exact ⟨atp, by rw [List.length_map]; exact few, us, _, rel, atp⟩
/-- the goal behind the head -/
theorem walk_go {l : PySem.W.OpenLaw} {n k : Nat} {q : Program} {loose : List Str} {XP : (Str → Option Value) → Heap → Prop} {YP : World → Heap → Prop} {d : DefRec} {K : Params → PySem.W.Frag} {x : Str} {ms : DSp}
    (hm : l.most = some n) (hz : n ≤ sizeLine) (hd : d.params.defaults = []) (room : Room k callerA) (hY : ∀ (w : World) (h : Heap), YP w h → (K w.params).In h)
    (F : ∀ (w : World) (mg : Str → Option Value) (fa : Addr) (h : Heap), (K w.params).In h → h.Ns mainGlobals mg → mg d.name = some (.ref fa) →
      ∃ fd : FuncData, (∀ (s : Shared) (u : Value), BindsTo s fd ⟨[u], []⟩ [(x, u)]) ∧ ∀ b : Heap, (K w.params).In b → b.Ns mainGlobals mg → FnG l.prog w (K w.params) mg b k fa fd [x] (spL (K w.params) [.fz] ms))
    (hs : ∀ zs : List Int, zs.length ≤ n → ∀ Q E, Q (.fz (.bl true)) [.non] → ms [.scr zs] Q E) :
    PySem.W.WalkO q loose XP YP l.row.toRowW d [] (fun f vs => PySem.call f vs) := by
  refine Att.attach_call hm hd fun w s₀ t mg mb fa o pm cd doc p us zs G Y ho hdat hcd hmg atp are few ng => ?_
  have inK := hY w _ Y
  obtain ⟨fd, bd, go⟩ := F w mg fa _ inK G.T.g hmg
  refine law_go inK G.T.g G.T.b G.T.builtins G.T.nolimit ng atp are (Nat.le_trans few hz) room go bd fun H only seq => ?_
  refine ⟨H, [.scr zs], [], fun s _ => s = .fz (.bl true), fun _ _ _ => False, fun _ _ e => e, .fz (.scr seq) .nil, List.nodup_nil, hs zs few _ _ rfl, fun s _ e v H' Z' _ r => ?_, fun _ _ _ e => e.elim⟩
  subst e
  cases (show Rp (K w.params) Z' v (.bl true) from r)
  rfl
end Pu

set_option Elab.async false
set_option linter.all false
set_option maxRecDepth 100000
set_option maxHeartbeats 4000000
/-! K36: the defs as programs over plain data, and that they are (printed by gen.py). -/
namespace K36
open PySem L2 PySem.Spec PyProof.Rows Pu
def top (i : Nat) : Stmt := PySem.Challenge.pw_nowheretohide_k36_whole_where_they_may_b.main.body.getD i (.Pass ⟨0, 0, 0, 0⟩)
abbrev s_is_name : Stmt := top 9
abbrev s_check_house : Stmt := top 17
abbrev s_is_lot_of : Stmt := top 18
abbrev s_bits_of : Stmt := top 19
abbrev s_lot_of : Stmt := top 20
abbrev s_near_of : Stmt := top 21
abbrev s_full_of : Stmt := top 24
abbrev s_are_lots : Stmt := top 25
abbrev s_check_looks : Stmt := top 26
abbrev s_come_from : Stmt := top 28
abbrev s_may_lurk_by : Stmt := top 29
abbrev s_may_lurk : Stmt := top 30
abbrev s_does_catch : Stmt := top 31
abbrev s_caught : Stmt := top 32
abbrev s__law_pot : Stmt := top 34
abbrev s__law_take : Stmt := top 35
abbrev s__law_cells : Stmt := top 36
abbrev s__law_some : Stmt := top 37
abbrev s__law_names : Stmt := top 38
abbrev s__law_house : Stmt := top 39
abbrev s__law_text : Stmt := top 40
abbrev s__law_near : Stmt := top 41
abbrev s__law_lot : Stmt := top 42
abbrev s__law_come : Stmt := top 43
abbrev s__law_may_be : Stmt := top 44
abbrev s__law_goes : Stmt := top 45
abbrev s__law_right : Stmt := top 46
abbrev s_law : Stmt := top 47
abbrev sR_init : Stmt := inClass (top 15) 0
abbrev sR_takes : Stmt := inClass (top 15) 1
abbrev sR_room : Stmt := inClass (top 15) 2
abbrev sR_told : Stmt := inClass (top 15) 3
abbrev sH_init : Stmt := inClass (top 16) 0
abbrev sH_text : Stmt := inClass (top 16) 2
abbrev sH_rooms : Stmt := inClass (top 16) 3
abbrev sH_doors : Stmt := inClass (top 16) 4
/-- a def of the module -/
structure Fd (K : PySem.W.Frag) (mg : Str → Option Value) (nm : Str) (st : Stmt) where
  f : Addr
  fd : FuncData
  m : mg nm = some (.ref f)
  k : PySem.W.keepIn K (.ref f) = true
  T : Fun K nm nm st f fd
/-- a def of a class -/
structure Mdf (K : PySem.W.Frag) (nm qual : Str) (st : Stmt) where
  f : Addr
  fd : FuncData
  T : Fun K nm qual st f fd
/-- what the text's top has made -/
structure Txt (K : PySem.W.Frag) (mg : Str → Option Value) where
  C : Addr
  cl : Cls K C
  mH : mg "House" = some (.ref C)
  ic : InsOf K C
  pa_doors : Addr
  ga_doors : Addr
  fg_doors : FuncData
  p_doors : PropOf K C "doors" pa_doors ga_doors
  g_doors : ∀ {P : Program} {w : World} {base : Heap}, FnOk P w K mg base CX0 1 ga_doors fg_doors ["self"] (getSp C "own_doors")
  b_doors : Binds K fg_doors ["self"] []
  pa_rooms : Addr
  ga_rooms : Addr
  fg_rooms : FuncData
  p_rooms : PropOf K C "rooms" pa_rooms ga_rooms
  g_rooms : ∀ {P : Program} {w : World} {base : Heap}, FnOk P w K mg base CX0 1 ga_rooms fg_rooms ["self"] (getSp C "own_rooms")
  b_rooms : Binds K fg_rooms ["self"] []
  pa_text : Addr
  ga_text : Addr
  fg_text : FuncData
  p_text : PropOf K C "text" pa_text ga_text
  g_text : ∀ {P : Program} {w : World} {base : Heap}, FnOk P w K mg base CX0 1 ga_text fg_text ["self"] (getSp C "own_text")
  b_text : Binds K fg_text ["self"] []
  CR : Addr
  clR : Cls K CR
  mR : mg "Reader" = some (.ref CR)
  noR_rooms : NoAttr K CR "own_rooms"
  noR_doors : NoAttr K CR "own_doors"
  m_init : Mdf K "__init__" "Reader.__init__" sR_init
  m_takes : Mdf K "takes" "Reader.takes" sR_takes
  m_room : Mdf K "takes_room" "Reader.takes_room" sR_room
  m_told : Mdf K "told_doors" "Reader.told_doors" sR_told
  h_init : Mdf K "__init__" "House.__init__" sH_init
  mkR : Mk K CR m_init.f
  mkH : Mk K C h_init.f
  mt_takes : Meth K CR "takes" m_takes.f
  mt_room : Meth K CR "takes_room" m_room.f
  mt_told : Meth K CR "told_doors" m_told.f
  noH_text : NoAttr K C "own_text"
  noH_rooms : NoAttr K C "own_rooms"
  noH_doors : NoAttr K C "own_doors"
  f_is_name : Fd K mg "is_name" s_is_name
  f_check_house : Fd K mg "check_house" s_check_house
  f_is_lot_of : Fd K mg "is_lot_of" s_is_lot_of
  f_bits_of : Fd K mg "bits_of" s_bits_of
  f_lot_of : Fd K mg "lot_of" s_lot_of
  f_near_of : Fd K mg "near_of" s_near_of
  f_full_of : Fd K mg "full_of" s_full_of
  f_are_lots : Fd K mg "are_lots" s_are_lots
  f_check_looks : Fd K mg "check_looks" s_check_looks
  f_come_from : Fd K mg "come_from" s_come_from
  f_may_lurk_by : Fd K mg "may_lurk_by" s_may_lurk_by
  f_may_lurk : Fd K mg "may_lurk" s_may_lurk
  f_does_catch : Fd K mg "does_catch" s_does_catch
  f_caught : Fd K mg "caught" s_caught
  f__law_pot : Fd K mg "_law_pot" s__law_pot
  f__law_take : Fd K mg "_law_take" s__law_take
  f__law_cells : Fd K mg "_law_cells" s__law_cells
  f__law_some : Fd K mg "_law_some" s__law_some
  f__law_names : Fd K mg "_law_names" s__law_names
  f__law_house : Fd K mg "_law_house" s__law_house
  f__law_text : Fd K mg "_law_text" s__law_text
  f__law_near : Fd K mg "_law_near" s__law_near
  f__law_lot : Fd K mg "_law_lot" s__law_lot
  f__law_come : Fd K mg "_law_come" s__law_come
  f__law_may_be : Fd K mg "_law_may_be" s__law_may_be
  f__law_goes : Fd K mg "_law_goes" s__law_goes
  f__law_right : Fd K mg "_law_right" s__law_right
  f_law : Fd K mg "law" s_law
  n_abs : mg "abs" = none
  n_all : mg "all" = none
  n_any : mg "any" = none
  n_dict : mg "dict" = none
  n_enumerate : mg "enumerate" = none
  n_int : mg "int" = none
  n_isinstance : mg "isinstance" = none
  n_len : mg "len" = none
  n_list : mg "list" = none
  n_max : mg "max" = none
  n_min : mg "min" = none
  n_range : mg "range" = none
  n_repr : mg "repr" = none
  n_set : mg "set" = none
  n_sorted : mg "sorted" = none
  n_str : mg "str" = none
  n_sum : mg "sum" = none
  n_tuple : mg "tuple" = none
  n_zip : mg "zip" = none
  c_MOST_SIGNS : ∃ t, mg "MOST_SIGNS" = some (.int 8 t)
  c_LETTERS : ∃ t, mg "LETTERS" = some (.str "abcdefghijklmnopqrstuvwxyz" t)
  c_FIGURES : ∃ t, mg "FIGURES" = some (.str "0123456789" t)
  c_MOST_LOOKS : ∃ t, mg "MOST_LOOKS" = some (.int 200 t)
  c_MOST_DOORS : ∃ t, mg "MOST_DOORS" = some (.int 60 t)
  c_ROOM : ∃ t, mg "ROOM" = some (.str "room" t)
  c_DOOR : ∃ t, mg "DOOR" = some (.str "door" t)
  c_MOST_ROOMS : ∃ t, mg "MOST_ROOMS" = some (.int 16 t)
/-- the promises -/
structure Sps where
  is_name : DSp
  check_house : DSp
  is_lot_of : DSp
  bits_of : DSp
  lot_of : DSp
  near_of : DSp
  full_of : DSp
  are_lots : DSp
  check_looks : DSp
  come_from : DSp
  may_lurk_by : DSp
  may_lurk : DSp
  does_catch : DSp
  caught : DSp
  _law_pot : DSp
  _law_take : DSp
  _law_cells : DSp
  _law_some : DSp
  _law_names : DSp
  _law_house : DSp
  _law_text : DSp
  _law_near : DSp
  _law_lot : DSp
  _law_come : DSp
  _law_may_be : DSp
  _law_goes : DSp
  _law_right : DSp
  law : DSp
  House : DSp
/-- House(e) -/
def HouseOk (K : PySem.W.Frag) (mg : Str → Option Value) (sp : DSp) : Prop := ∀ (F : Fm), F.K = K → (∀ i, (F.X i).mg = mg) → (∀ i, Room 6 (F.X i).A) → ∀ {e : Expr} {w : WE} {p pos : Pos}, RE F e w → (∀ i, Gl (F.X i) "House") →
  (∀ i, starEach [e] (F.X i).env = (false, eval e (F.X i).env) :: starEach [] (F.X i).env) → (∀ i, (backTo pos (starEach [] (F.X i).env)).any (·.1) = false) → RE F (.Call (.Name "House" p) [e] [] pos) (wCall sp (asV w asN))
def w_is_name (S : Sps) (C : Nat) : WS :=
  (wSeq (wIfS (tOr (tNot (tV (wIsTy "str" (rN 0)))) (tOr (tNot (tV (wChain kLt kLe (rE (wC (.int 0))) (rE (wB kLen (rsC (rN 0) rsN))) (rE (wC (.int 8)))))) (tV (wOp kNotIn (rE (wOp kIx (rN 0) (rE (wC (.int 0))))) (rE (wC (.str "abcdefghijklmnopqrstuvwxyz"))))))) (wRet (wC (.bl false))) wPass)
  (wRet (wB kAll (rsC (rE (wLc (iSt (wN 0)) (gN 1) tYes (wOr (wOp kIn (rN 1) (rE (wC (.str "abcdefghijklmnopqrstuvwxyz")))) (wOp kIn (rN 1) (rE (wC (.str "0123456789"))))) [1])) rsN))))
def w_check_house (S : Sps) (C : Nat) : WS :=
  (wIfS (tNot (tV (wIsC C (rN 0)))) wNever wPass)
def w_is_lot_of (S : Sps) (C : Nat) : WS :=
  (wSeq (wIfS (tOr (tNot (tV (wIsTy "tuple" (rN 1)))) (tNot (tV (wB kAll (rsC (rE (wLc (iSq (wN 1)) (gN 2) tYes (wIsTy "str" (rN 2)) [2])) rsN))))) (wRet (wC (.bl false))) wPass)
  (wRet (wOp kEq (rN 1) (rE (wB kTuple (rsC (rE (wLc (iSq (wPropT C "own_rooms" (rN 0))) (gN 2) (tV (wOp kIn (rN 2) (rN 1))) (wN 2) [2])) rsN))))))
def w_bits_of (S : Sps) (C : Nat) : WS :=
  (wRet (wB kSum (rsC (rE (wLc (iEn (wPropT C "own_rooms" (rN 0))) (gTn 2 (gsC (gN 2) (gsC (gN 3) gsN))) (tV (wOp kIn (rN 3) (rN 1))) (wOp kShl (rE (wC (.int 1))) (rN 2)) [2, 3])) rsN)))
def w_lot_of (S : Sps) (C : Nat) : WS :=
  (wRet (wB kTuple (rsC (rE (wLc (iEn (wPropT C "own_rooms" (rN 0))) (gTn 2 (gsC (gN 2) (gsC (gN 3) gsN))) (tV (wOp kEq (rE (wOp kAnd (rE (wOp kShr (rN 1) (rN 2))) (rE (wC (.int 1))))) (rE (wC (.int 1))))) (wN 3) [2, 3])) rsN)))
def w_near_of (S : Sps) (C : Nat) : WS :=
  (wSeq (wSet 1 (wOp kMul (rE (wLst (vsC (wC (.int 0)) vsN))) (rE (wB kLen (rsC (rE (wPropT C "own_rooms" (rN 0))) rsN)))))
  (wSeq (wFor (iSq (wPropT C "own_doors" (rN 0))) (gTn 2 (gsC (gN 2) (gsC (gN 3) gsN))) (wSeq (wPar [4, 5] (hsC (wTIx (wProp C "own_rooms" (rN 0)) (rsC (rN 2) rsN)) (hsC (wTIx (wProp C "own_rooms" (rN 0)) (rsC (rN 3) rsN)) hsN)))
  (wAsg (gTn 2 (gsC (gIx 1 (rN 4)) (gsC (gIx 1 (rN 5)) gsN))) (wTup (vsC (wOp kOr (rE (wOp kIx (rN 1) (rN 4))) (rE (wOp kShl (rE (wC (.int 1))) (rN 5)))) (vsC (wOp kOr (rE (wOp kIx (rN 1) (rN 5))) (rE (wOp kShl (rE (wC (.int 1))) (rN 4)))) vsN))))))
  (wRet (wN 1))))
def w_full_of (S : Sps) (C : Nat) : WS :=
  (wRet (wOp kSub (rE (wOp kShl (rE (wC (.int 1))) (rE (wB kLen (rsC (rE (wPropT C "own_rooms" (rN 0))) rsN))))) (rE (wC (.int 1)))))
def w_are_lots (S : Sps) (C : Nat) : WS :=
  (wRet (wAnd (wIsTy "tuple" (rN 1)) (wAnd (wOp kNe (rN 1) (rE (wTup vsN))) (wB kAll (rsC (rE (wLc (iSq (wN 1)) (gN 2) tYes (wCall S.is_lot_of (asApp (asV (wN 0) (asV (wN 2) asN)) asN)) [2])) rsN)))))
def w_check_looks (S : Sps) (C : Nat) : WS :=
  (wSeq (wDrop (wCall S.check_house (asApp (asV (wN 0) asN) asN)))
  (wIfS (tOr (tNot (tV (wCall S.are_lots (asApp (asV (wN 0) (asV (wN 1) asN)) asN)))) (tV (wOp kGt (rE (wB kLen (rsC (rN 1) rsN))) (rE (wC (.int 200)))))) wNever wPass))
def w_come_from (S : Sps) (C : Nat) : WS :=
  (wSeq (wSet 2 (wC (.int 0)))
  (wSeq (wFor (iEn (wN 0)) (gTn 2 (gsC (gN 3) (gsC (gN 4) gsN))) (wIfS (tV (wOp kEq (rE (wOp kAnd (rE (wOp kShr (rN 1) (rN 3))) (rE (wC (.int 1))))) (rE (wC (.int 1))))) (wSet 2 (wOp kOr (rN 2) (rE (wIf (tV (wOp kNe (rN 4) (rE (wC (.int 0))))) (wN 4) (wOp kShl (rE (wC (.int 1))) (rN 3)))))) wPass))
  (wRet (wN 2))))
def w_may_lurk_by (S : Sps) (C : Nat) : WS :=
  (wSeq (wPar [2, 3, 4] (hsC (wCall S.near_of (asApp (asV (wN 0) asN) asN)) (hsC (wCall S.full_of (asApp (asV (wN 0) asN) asN)) (hsC (wLst vsN) hsN))))
  (wSeq (wFor (iSq (wN 1)) (gN 5) (wSeq (wSet 3 (wOp kAnd (rN 3) (rE (wUn kInv (rE (wCall S.bits_of (asApp (asV (wN 0) (asV (wN 5) asN)) asN)))))))
  (wSeq (wDrop (wMut "list" kAppend 4 (vsC (wN 3) vsN)))
  (wSet 3 (wCall S.come_from (asApp (asV (wN 2) (asV (wN 3) asN)) asN))))))
  (wRet (wN 4))))
def w_may_lurk (S : Sps) (C : Nat) : WS :=
  (wSeq (wDrop (wCall S.check_looks (asApp (asV (wN 0) (asV (wN 1) asN)) asN)))
  (wRet (wB kTuple (rsC (rE (wLc (iSq (wCall S.may_lurk_by (asApp (asV (wN 0) (asV (wN 1) asN)) asN))) (gN 2) tYes (wCall S.lot_of (asApp (asV (wN 0) (asV (wN 2) asN)) asN)) [2])) rsN))))
def w_does_catch (S : Sps) (C : Nat) : WS :=
  (wRet (wOp kIn (rE (wC (.int 0))) (rE (wCall S.may_lurk_by (asApp (asV (wN 0) (asV (wN 1) asN)) asN)))))
def w_caught (S : Sps) (C : Nat) : WS :=
  (wSeq (wDrop (wCall S.check_looks (asApp (asV (wN 0) (asV (wN 1) asN)) asN)))
  (wRet (wCall S.does_catch (asApp (asV (wN 0) (asV (wN 1) asN)) asN))))
def w__law_pot (S : Sps) (C : Nat) : WS :=
  (wSeq (wSet 2 (wIf (tV (wOp kLt (rN 1) (rE (wB kLen (rsC (rN 0) rsN))))) (wOp kIx (rN 0) (rN 1)) (wOp kAdd (rE (wOp kMul (rE (wC (.int 743))) (rN 1))) (rE (wC (.int 463))))))
  (wSeq (wSet 3 (wOp kMul (rE (wOp kMod (rE (wB kInt (rsC (rE (wB kAbs (rsC (rN 2) rsN))) rsN))) (rE (wOp kPow (rE (wOp kPow (rE (wC (.int 10))) (rE (wC (.int 60))))) (rE (wC (.int 5))))))) (rE (wB kInt (rsC (rE (wOp kGe (rE (wB kAbs (rsC (rN 2) rsN))) (rE (wOp kPow (rE (wC (.int 10))) (rE (wC (.int 18))))))) rsN)))))
  (wSeq (wSet 4 (wOp kMod (rE (wB kInt (rsC (rN 2) rsN))) (rE (wC (.int 2305843009213693951)))))
  (wRet (wLst (vsC (wN 3) (vsC (wOp kMod (rE (wB kInt (rsC (rE (wOp kAdd (rE (wOp kAdd (rE (wOp kMul (rN 4) (rE (wC (.int 70853))))) (rE (wOp kMul (rE (wOp kMul (rE (wC (.int 9391))) (rN 1))) (rN 1))))) (rE (wC (.int 883))))) rsN))) (rE (wC (.int 2305843009213693921)))) (vsC (wC (.int 0)) vsN))))))))
def w__law_take (S : Sps) (C : Nat) : WS :=
  (wSeq (wIfS (tV (wOp kGt (rE (wOp kIx (rN 0) (rE (wC (.int 0))))) (rE (wC (.int 0))))) (wSeq (wSet 2 (wOp kMod (rE (wB kInt (rsC (rE (wOp kIx (rN 0) (rE (wC (.int 0))))) rsN))) (rN 1)))
  (wSeq (wAsg (gIx 0 (rE (wC (.int 0)))) (wOp kFdiv (rE (wOp kIx (rN 0) (rE (wC (.int 0))))) (rN 1)))
  (wRet (wN 2)))) wPass)
  (wSeq (wAsg (gIx 0 (rE (wC (.int 2)))) (wOp kAdd (rE (wOp kIx (rN 0) (rE (wC (.int 2))))) (rE (wC (.int 1)))))
  (wSeq (wSet 3 (wOp kIx (rE (wLst (vsC (wC (.int 2147483647)) (vsC (wC (.int 2147483629)) (vsC (wC (.int 2147483587)) (vsC (wC (.int 2147483579)) (vsC (wC (.int 2147483563)) vsN))))))) (rE (wOp kMod (rE (wB kInt (rsC (rE (wOp kIx (rN 0) (rE (wC (.int 2))))) rsN))) (rE (wC (.int 5)))))))
  (wSeq (wSet 4 (wOp kMod (rE (wB kInt (rsC (rE (wOp kPow (rE (wB kInt (rsC (rE (wOp kAdd (rE (wOp kAdd (rE (wOp kIx (rN 0) (rE (wC (.int 1))))) (rE (wOp kMul (rE (wOp kMul (rE (wC (.int 90641))) (rE (wOp kIx (rN 0) (rE (wC (.int 2))))))) (rE (wOp kIx (rN 0) (rE (wC (.int 2))))))))) (rE (wC (.int 233))))) rsN))) (rE (wC (.int 3))))) rsN))) (rN 3)))
  (wSeq (wSet 4 (wOp kMod (rE (wB kInt (rsC (rE (wOp kMul (rN 4) (rE (wOp kAdd (rE (wOp kMod (rE (wB kInt (rsC (rN 4) rsN))) (rE (wC (.int 10369))))) (rE (wOp kMul (rE (wC (.int 317))) (rE (wOp kIx (rN 0) (rE (wC (.int 2))))))))))) rsN))) (rE (wC (.int 2305843009213693907)))))
  (wRet (wOp kMod (rE (wB kInt (rsC (rE (wOp kFdiv (rN 4) (rE (wC (.int 281))))) rsN))) (rN 1))))))))
def w__law_cells (S : Sps) (C : Nat) : WS :=
  (wRet (wLrg1 (rE (wB kMax2 (rsC (rE (wC (.int 1))) (rsC (rE (wB kMin2 (rsC (rN 1) (rsC (rE (wB kLen (rsC (rN 0) rsN))) rsN)))) rsN))))))
def w__law_some (S : Sps) (C : Nat) : WS :=
  (wSeq (wPar [3, 4] (hsC (wB kList (rsC (rN 1) rsN)) (hsC (wLst vsN) hsN)))
  (wSeq (wFor (iRng1 (rN 2)) (gN 5) (wDrop (wMut "list" kAppend 4 (vsC (wMut "list" kPopAt 3 (vsC (wCall S._law_take (asApp (asS 0 (asV (wB kLen (rsC (rN 3) rsN)) asN)) asN)) vsN)) vsN))))
  (wRet (wN 4))))
def w__law_names (S : Sps) (C : Nat) : WS :=
  (wSeq (wSet 2 (wC (.str "abcdefghijklmnopqrstuvwxyz0123456789")))
  (wSeq (wSet 3 (wCall S._law_some (asApp (asS 0 (asV (wOp kAdd (rE (wLst (vsC (wC (.str "a")) (vsC (wC (.str "b")) (vsC (wC (.str "c")) (vsC (wC (.str "x9")) (vsC (wC (.str "room")) (vsC (wC (.str "door")) vsN)))))))) (rE (wLc (iRng1 (rE (wC (.int 20)))) (gN 5) tYes (wOp kAdd (rE (wC (.str "n"))) (rE (wB kStr (rsC (rN 5) rsN)))) [5]))) (asV (wN 1) asN))) asN)))
  (wSeq (wSet 4 (wOp kAdd (rE (wC (.str "of"))) (rE (wMt "str" kJoin (rE (wC (.str ""))) (rsC (rE (wLc (iRng1 (rE (wCall S._law_take (asApp (asS 0 (asV (wC (.int 7)) asN)) asN)))) (gN 6) tYes (wOp kIx (rN 2) (rE (wCall S._law_take (asApp (asS 0 (asV (wC (.int 36)) asN)) asN)))) [6])) rsN)))))
  (wRet (wIf (tOr (tV (wOp kGt (rE (wCall S._law_take (asApp (asS 0 (asV (wC (.int 3)) asN)) asN))) (rE (wC (.int 0))))) (tV (wOp kIn (rN 4) (rN 3)))) (wN 3) (wOp kAdd (rE (wSl (rN 3) oN (oS (rE (wUn kNeg (rE (wC (.int 1)))))))) (rE (wLst (vsC (wN 4) vsN)))))))))
def w__law_house (S : Sps) (C : Nat) : WS :=
  (wSeq (wPar [2, 3, 4] (hsC (wCall S._law_names (asApp (asS 0 (asV (wN 1) asN)) asN)) (hsC (wCall S._law_take (asApp (asS 0 (asV (wC (.int 6)) asN)) asN)) (hsC (wLst vsN) hsN))))
  (wSeq (wFor (iRng2 (rE (wC (.int 1))) (rN 1)) (gN 5) (wSeq (wIfS (tAnd (tV (wOp kEq (rN 3) (rE (wC (.int 1))))) (tV (wOp kGt (rE (wCall S._law_take (asApp (asS 0 (asV (wC (.int 8)) asN)) asN))) (rE (wC (.int 0)))))) (wDrop (wMut "list" kAppend 4 (vsC (wTup (vsC (wB kInt (rsC (rE (wCall S._law_take (asApp (asS 0 (asV (wN 5) asN)) asN))) rsN)) (vsC (wN 5) vsN))) vsN))) wPass)
  (wFor (iRng1 (rN 5)) (gN 6) (wSeq (wSet 7 (wCall S._law_take (asApp (asS 0 (asV (wC (.int 4)) asN)) asN)))
  (wIfS (tOr (tAnd (tV (wOp kEq (rN 3) (rE (wC (.int 0))))) (tV (wOp kEq (rN 7) (rE (wC (.int 0)))))) (tOr (tAnd (tV (wOp kEq (rN 3) (rE (wC (.int 2))))) (tV (wOp kLt (rN 7) (rE (wC (.int 2)))))) (tAnd (tV (wOp kEq (rN 3) (rE (wC (.int 3))))) (tV (wOp kLt (rN 7) (rE (wC (.int 3)))))))) (wDrop (wMut "list" kAppend 4 (vsC (wTup (vsC (wN 6) (vsC (wN 5) vsN))) vsN))) (wIfS (tAnd (tV (wOp kEq (rN 3) (rE (wC (.int 4))))) (tOr (tV (wOp kEq (rN 6) (rE (wOp kSub (rN 5) (rE (wC (.int 1))))))) (tAnd (tV (wOp kEq (rN 7) (rE (wC (.int 0))))) (tV (wOp kEq (rE (wOp kMod (rN 6) (rE (wC (.int 3))))) (rE (wC (.int 0)))))))) (wDrop (wMut "list" kAppend 4 (vsC (wTup (vsC (wN 6) (vsC (wN 5) vsN))) vsN))) (wIfS (tAnd (tV (wOp kEq (rN 3) (rE (wC (.int 5))))) (tAnd (tV (wOp kLt (rN 7) (rE (wC (.int 2))))) (tV (wOp kEq (rE (wOp kLt (rN 6) (rE (wOp kFdiv (rN 1) (rE (wC (.int 2))))))) (rE (wOp kLt (rN 5) (rE (wOp kFdiv (rN 1) (rE (wC (.int 2))))))))))) (wDrop (wMut "list" kAppend 4 (vsC (wTup (vsC (wN 6) (vsC (wN 5) vsN))) vsN))) wPass)))))))
  (wSeq (wSet 4 (wSl (rN 4) oN (oS (rE (wC (.int 60))))))
  (wSeq (wSet 8 (wLc (iEn (wN 4)) (gTn 2 (gsC (gN 5) (gsC (gN 9) gsN))) (tV (wOp kNotIn (rN 9) (rE (wSl (rN 4) oN (oS (rN 5)))))) (wN 9) [5, 9]))
  (wRet (wDic (psC (wC (.str "rooms")) (wN 2) (psC (wC (.str "doors")) (wB kSorted (rsC (rN 8) rsN)) psN))))))))
def w__law_text (S : Sps) (C : Nat) : WS :=
  (wSeq (wSet 1 (wLc (iSq (wOp kIx (rN 0) (rE (wC (.str "rooms"))))) (gN 2) tYes (wOp kAdd (rE (wC (.str "room "))) (rN 2)) [2]))
  (wRet (wMt "str" kJoin (rE (wC (.str "\n"))) (rsC (rE (wOp kAdd (rN 1) (rE (wLc (iSq (wOp kIx (rN 0) (rE (wC (.str "doors"))))) (gTn 2 (gsC (gN 3) (gsC (gN 4) gsN))) tYes (wOp kAdd (rE (wOp kAdd (rE (wOp kAdd (rE (wC (.str "door "))) (rE (wOp kIx (rE (wOp kIx (rN 0) (rE (wC (.str "rooms"))))) (rN 3))))) (rE (wC (.str " "))))) (rE (wOp kIx (rE (wOp kIx (rN 0) (rE (wC (.str "rooms"))))) (rN 4)))) [3, 4])))) rsN))))
def w__law_near (S : Sps) (C : Nat) : WS :=
  (wSeq (wSet 1 (wLcO (iSq (wOp kIx (rN 0) (rE (wC (.str "rooms"))))) (gN 4) tYes (wLst vsN) [4]))
  (wSeq (wFor (iSq (wOp kIx (rN 0) (rE (wC (.str "doors"))))) (gTn 2 (gsC (gN 2) (gsC (gN 3) gsN))) (wSeq (wDrop (wMutAt kAppend 1 (rN 2) (vsC (wN 3) vsN)))
  (wDrop (wMutAt kAppend 1 (rN 3) (vsC (wN 2) vsN)))))
  (wRet (wN 1))))
def w__law_lot (S : Sps) (C : Nat) : WS :=
  (wRet (wB kTuple (rsC (rE (wLc (iEn (wOp kIx (rN 0) (rE (wC (.str "rooms"))))) (gTn 2 (gsC (gN 2) (gsC (gN 3) gsN))) (tV (wOp kIn (rN 2) (rN 1))) (wN 3) [2, 3])) rsN)))
def w__law_come (S : Sps) (C : Nat) : WS :=
  (wSeq (wSet 2 (wLst vsN))
  (wSeq (wFor (iSq (wN 1)) (gN 3) (wDrop (wMut "list" kExtend 2 (vsC (wIf (tV (wOp kNe (rE (wOp kIx (rN 0) (rN 3))) (rE (wLst vsN)))) (wOp kIx (rN 0) (rN 3)) (wLst (vsC (wN 3) vsN))) vsN))))
  (wRet (wB kSortedSet (rsC (rN 2) rsN)))))
def w__law_may_be (S : Sps) (C : Nat) : WS :=
  (wSeq (wPar [2, 3, 4] (hsC (wCall S._law_near (asApp (asV (wN 0) asN) asN)) (hsC (wLrg1 (rE (wB kLen (rsC (rE (wOp kIx (rN 0) (rE (wC (.str "rooms"))))) rsN)))) (hsC (wLst vsN) hsN))))
  (wSeq (wFor (iSq (wN 1)) (gN 5) (wSeq (wSet 3 (wLc (iSq (wN 3)) (gN 6) (tV (wOp kNotIn (rE (wOp kIx (rE (wOp kIx (rN 0) (rE (wC (.str "rooms"))))) (rN 6))) (rN 5))) (wN 6) [6]))
  (wSeq (wDrop (wMut "list" kAppend 4 (vsC (wCall S._law_lot (asApp (asV (wN 0) (asV (wN 3) asN)) asN)) vsN)))
  (wSet 3 (wCall S._law_come (asApp (asV (wN 2) (asV (wN 3) asN)) asN))))))
  (wRet (wB kTuple (rsC (rN 4) rsN)))))
def w__law_goes (S : Sps) (C : Nat) : WS :=
  (wSeq (wPar [3, 4, 5] (hsC (wCall S._law_near (asApp (asV (wN 0) asN) asN)) (hsC (wLst (vsC (wN 2) vsN)) (hsC (wLst vsN) hsN))))
  (wSeq (wFor (iSq (wN 1)) (gN 6) (wSeq (wSet 4 (wLc (iSq (wN 4)) (gN 7) (tV (wOp kNotIn (rE (wOp kIx (rE (wOp kIx (rN 0) (rE (wC (.str "rooms"))))) (rN 7))) (rN 6))) (wN 7) [7]))
  (wSeq (wDrop (wMut "list" kAppend 5 (vsC (wN 4) vsN)))
  (wSet 4 (wCall S._law_come (asApp (asV (wN 3) (asV (wN 4) asN)) asN))))))
  (wRet (wN 5))))
def w__law_right (S : Sps) (C : Nat) : WS :=
  (wSeq (wSet 1 (wCall S._law_house (asApp (asS 0 (asV (wOp kAdd (rE (wC (.int 1))) (rE (wCall S._law_take (asApp (asS 0 (asV (wC (.int 16)) asN)) asN)))) asN)) asN)))
  (wSeq (wPar [2, 3] (hsC (wCall S.House (asV (wCall S._law_text (asApp (asV (wN 1) asN) asN)) asN)) (hsC (wLst vsN) hsN)))
  (wSeq (wFor (iRng1 (rE (wOp kAdd (rE (wC (.int 1))) (rE (wCall S._law_take (asApp (asS 0 (asV (wC (.int 12)) asN)) asN)))))) (gN 4) (wSeq (wSet 5 (wCall S._law_some (asApp (asS 0 (asV (wOp kIx (rN 1) (rE (wC (.str "rooms")))) (asV (wCall S._law_take (asApp (asS 0 (asV (wOp kAdd (rE (wB kLen (rsC (rE (wOp kIx (rN 1) (rE (wC (.str "rooms"))))) rsN))) (rE (wC (.int 1)))) asN)) asN)) asN))) asN)))
  (wDrop (wMut "list" kAppend 3 (vsC (wB kTuple (rsC (rE (wLc (iSq (wOp kIx (rN 1) (rE (wC (.str "rooms"))))) (gN 19) (tV (wOp kIn (rN 19) (rN 5))) (wN 19) [19])) rsN)) vsN)))))
  (wSeq (wPar [6, 7] (hsC (wCall S.may_lurk (asApp asN (asV (wN 2) (asV (wB kTuple (rsC (rN 3) rsN)) asN)))) (hsC (wCall S._law_may_be (asApp (asV (wN 1) (asV (wN 3) asN)) asN)) hsN)))
  (wSeq (wIfS (tOr (tV (wOp kNe (rE (wB kRepr (rsC (rN 6) rsN))) (rE (wB kRepr (rsC (rN 7) rsN))))) (tV (wOp kNe (rE (wB kRepr (rsC (rE (wCall S.caught (asApp asN (asV (wN 2) (asV (wB kTuple (rsC (rN 3) rsN)) asN))))) rsN))) (rE (wB kRepr (rsC (rE (wOp kIn (rE (wTup vsN)) (rN 7))) rsN)))))) (wRet (wC (.bl false))) wPass)
  (wSeq (wSet 8 (wLc (iRng1 (rE (wB kLen (rsC (rE (wOp kIx (rN 1) (rE (wC (.str "rooms"))))) rsN)))) (gN 20) tYes (wCall S._law_goes (asApp (asV (wN 1) (asV (wN 3) (asV (wN 20) asN))) asN)) [20]))
  (wSeq (wFor (iRng1 (rE (wB kLen (rsC (rN 3) rsN)))) (gN 9) (wSeq (wSet 10 (wLc (iRng1 (rE (wB kLen (rsC (rE (wOp kIx (rN 1) (rE (wC (.str "rooms"))))) rsN)))) (gN 21) (tV (wB kAny (rsC (rE (wLc (iSq (wN 8)) (gN 22) tYes (wOp kIn (rN 21) (rE (wOp kIx (rN 22) (rN 9)))) [22])) rsN))) (wN 21) [21]))
  (wIfS (tV (wOp kNe (rE (wOp kIx (rN 6) (rN 9))) (rE (wCall S._law_lot (asApp (asV (wN 1) (asV (wN 10) asN)) asN))))) (wRet (wC (.bl false))) wPass)))
  (wSeq (wSet 11 (wB kDictZip (rsC (rE (wOp kIx (rN 1) (rE (wC (.str "rooms"))))) (rsC (rE (wCall S._law_some (asApp (asS 0 (asV (wLc (iRng1 (rE (wC (.int 20)))) (gN 9) tYes (wOp kAdd (rE (wC (.str "m"))) (rE (wB kStr (rsC (rN 9) rsN)))) [9]) (asV (wB kLen (rsC (rE (wOp kIx (rN 1) (rE (wC (.str "rooms"))))) rsN)) asN))) asN))) rsN))))
  (wSeq (wSet 12 (wCall S._law_some (asApp (asS 0 (asV (wLc (iSq (wOp kIx (rN 1) (rE (wC (.str "rooms"))))) (gN 19) tYes (wOp kIx (rN 11) (rN 19)) [19]) (asV (wB kLen (rsC (rE (wOp kIx (rN 1) (rE (wC (.str "rooms"))))) rsN)) asN))) asN)))
  (wSeq (wSet 13 (wLst vsN))
  (wSeq (wFor (iSq (wOp kIx (rN 1) (rE (wC (.str "doors"))))) (gTn 2 (gsC (gN 14) (gsC (gN 15) gsN))) (wDrop (wMut "list" kAppend 13 (vsC (wB kTuple (rsC (rE (wB kSorted (rsC (rE (wLst (vsC (wMt "list" kIndex (rN 12) (rsC (rE (wOp kIx (rN 11) (rE (wOp kIx (rE (wOp kIx (rN 1) (rE (wC (.str "rooms"))))) (rN 14))))) rsN)) (vsC (wMt "list" kIndex (rN 12) (rsC (rE (wOp kIx (rN 11) (rE (wOp kIx (rE (wOp kIx (rN 1) (rE (wC (.str "rooms"))))) (rN 15))))) rsN)) vsN)))) rsN))) rsN)) vsN))))
  (wSeq (wPar [16, 17] (hsC (wCall S.House (asV (wCall S._law_text (asApp (asV (wDic (psC (wC (.str "rooms")) (wN 12) (psC (wC (.str "doors")) (wB kSorted (rsC (rN 13) rsN)) psN))) asN) asN)) asN)) (hsC (wLst vsN) hsN)))
  (wSeq (wFor (iSq (wN 3)) (gN 18) (wDrop (wMut "list" kAppend 17 (vsC (wB kTuple (rsC (rE (wLc (iSq (wN 12)) (gN 19) (tV (wOp kIn (rN 19) (rE (wLc (iSq (wN 18)) (gN 14) tYes (wOp kIx (rN 11) (rN 14)) [14])))) (wN 19) [19])) rsN)) vsN))))
  (wRet (wOp kEq (rE (wLc (iSq (wCall S.may_lurk (asApp (asV (wN 16) (asV (wB kTuple (rsC (rN 17) rsN)) asN)) asN))) (gN 18) tYes (wB kSorted (rsC (rN 18) rsN)) [18])) (rE (wLc (iSq (wN 6)) (gN 18) tYes (wB kSorted (rsC (rE (wLc (iSq (wN 18)) (gN 19) tYes (wOp kIx (rN 11) (rN 19)) [19])) rsN)) [18])))))))))))))))))
def w_law (S : Sps) (C : Nat) : WS :=
  (wSeq (wFor (iSq (wCall S._law_cells (asApp (asV (wN 0) (asV (wC (.int 2)) asN)) asN))) (gN 1) (wSeq (wSet 2 (wCall S._law_pot (asApp (asV (wN 0) (asV (wN 1) asN)) asN)))
  (wIfS (tNot (tV (wB kAll (rsC (rE (wLc (iRng1 (rE (wC (.int 3)))) (gN 3) tYes (wCall S._law_right (asApp (asS 2 asN) asN)) [3])) rsN)))) (wRet (wC (.bl false))) wPass)))
  (wRet (wC (.bl true))))
section
variable {P : Program} {w : World} {K : PySem.W.Frag} {mg : Str → Option Value} {base : Heap}
theorem Txt.b_is_lot_of_2 (T : Txt K mg) : Bd T.f_is_lot_of.fd ["house", "value"] 2 [] := bd_of T.f_is_lot_of.T fun _ _ _ _ _ _ us ws h1 h2 => match us, ws, h1, h2 with | [_, _], [], _, _ => rfl
theorem Txt.b_check_house_1 (T : Txt K mg) : Bd T.f_check_house.fd ["house"] 1 [] := bd_of T.f_check_house.T fun _ _ _ _ _ _ us ws h1 h2 => match us, ws, h1, h2 with | [_], [], _, _ => rfl
theorem Txt.b_are_lots_2 (T : Txt K mg) : Bd T.f_are_lots.fd ["house", "value"] 2 [] := bd_of T.f_are_lots.T fun _ _ _ _ _ _ us ws h1 h2 => match us, ws, h1, h2 with | [_, _], [], _, _ => rfl
theorem Txt.b_near_of_1 (T : Txt K mg) : Bd T.f_near_of.fd ["house"] 1 [] := bd_of T.f_near_of.T fun _ _ _ _ _ _ us ws h1 h2 => match us, ws, h1, h2 with | [_], [], _, _ => rfl
theorem Txt.b_full_of_1 (T : Txt K mg) : Bd T.f_full_of.fd ["house"] 1 [] := bd_of T.f_full_of.T fun _ _ _ _ _ _ us ws h1 h2 => match us, ws, h1, h2 with | [_], [], _, _ => rfl
theorem Txt.b_come_from_2 (T : Txt K mg) : Bd T.f_come_from.fd ["near", "bits"] 2 [] := bd_of T.f_come_from.T fun _ _ _ _ _ _ us ws h1 h2 => match us, ws, h1, h2 with | [_, _], [], _, _ => rfl
theorem Txt.b_bits_of_2 (T : Txt K mg) : Bd T.f_bits_of.fd ["house", "lot"] 2 [] := bd_of T.f_bits_of.T fun _ _ _ _ _ _ us ws h1 h2 => match us, ws, h1, h2 with | [_, _], [], _, _ => rfl
theorem Txt.b_check_looks_2 (T : Txt K mg) : Bd T.f_check_looks.fd ["house", "lots"] 2 [] := bd_of T.f_check_looks.T fun _ _ _ _ _ _ us ws h1 h2 => match us, ws, h1, h2 with | [_, _], [], _, _ => rfl
theorem Txt.b_lot_of_2 (T : Txt K mg) : Bd T.f_lot_of.fd ["house", "bits"] 2 [] := bd_of T.f_lot_of.T fun _ _ _ _ _ _ us ws h1 h2 => match us, ws, h1, h2 with | [_, _], [], _, _ => rfl
theorem Txt.b_may_lurk_by_2 (T : Txt K mg) : Bd T.f_may_lurk_by.fd ["house", "lots"] 2 [] := bd_of T.f_may_lurk_by.T fun _ _ _ _ _ _ us ws h1 h2 => match us, ws, h1, h2 with | [_, _], [], _, _ => rfl
theorem Txt.b_does_catch_2 (T : Txt K mg) : Bd T.f_does_catch.fd ["house", "lots"] 2 [] := bd_of T.f_does_catch.T fun _ _ _ _ _ _ us ws h1 h2 => match us, ws, h1, h2 with | [_, _], [], _, _ => rfl
theorem Txt.b__law_take_2 (T : Txt K mg) : Bd T.f__law_take.fd ["pot", "upto"] 2 [] := bd_of T.f__law_take.T fun _ _ _ _ _ _ us ws h1 h2 => match us, ws, h1, h2 with | [_, _], [], _, _ => rfl
theorem Txt.b__law_some_3 (T : Txt K mg) : Bd T.f__law_some.fd ["pot", "pool", "amount"] 3 [] := bd_of T.f__law_some.T fun _ _ _ _ _ _ us ws h1 h2 => match us, ws, h1, h2 with | [_, _, _], [], _, _ => rfl
theorem Txt.b__law_names_2 (T : Txt K mg) : Bd T.f__law_names.fd ["pot", "many"] 2 [] := bd_of T.f__law_names.T fun _ _ _ _ _ _ us ws h1 h2 => match us, ws, h1, h2 with | [_, _], [], _, _ => rfl
theorem Txt.b__law_near_1 (T : Txt K mg) : Bd T.f__law_near.fd ["own"] 1 [] := bd_of T.f__law_near.T fun _ _ _ _ _ _ us ws h1 h2 => match us, ws, h1, h2 with | [_], [], _, _ => rfl
theorem Txt.b__law_come_2 (T : Txt K mg) : Bd T.f__law_come.fd ["near", "numbers"] 2 [] := bd_of T.f__law_come.T fun _ _ _ _ _ _ us ws h1 h2 => match us, ws, h1, h2 with | [_, _], [], _, _ => rfl
theorem Txt.b__law_lot_2 (T : Txt K mg) : Bd T.f__law_lot.fd ["own", "numbers"] 2 [] := bd_of T.f__law_lot.T fun _ _ _ _ _ _ us ws h1 h2 => match us, ws, h1, h2 with | [_, _], [], _, _ => rfl
theorem Txt.b__law_house_2 (T : Txt K mg) : Bd T.f__law_house.fd ["pot", "many"] 2 [] := bd_of T.f__law_house.T fun _ _ _ _ _ _ us ws h1 h2 => match us, ws, h1, h2 with | [_, _], [], _, _ => rfl
theorem Txt.b_may_lurk_0_k2 (T : Txt K mg) : Bd T.f_may_lurk.fd ["house", "lots"] 0 ["house", "lots"] := bd_of T.f_may_lurk.T fun _ _ _ _ _ _ us ws h1 h2 => match us, ws, h1, h2 with | [], [_, _], _, _ => rfl
theorem Txt.b__law_may_be_2 (T : Txt K mg) : Bd T.f__law_may_be.fd ["own", "lots"] 2 [] := bd_of T.f__law_may_be.T fun _ _ _ _ _ _ us ws h1 h2 => match us, ws, h1, h2 with | [_, _], [], _, _ => rfl
theorem Txt.b__law_goes_3 (T : Txt K mg) : Bd T.f__law_goes.fd ["own", "lots", "start"] 3 [] := bd_of T.f__law_goes.T fun _ _ _ _ _ _ us ws h1 h2 => match us, ws, h1, h2 with | [_, _, _], [], _, _ => rfl
theorem Txt.b__law_text_1 (T : Txt K mg) : Bd T.f__law_text.fd ["own"] 1 [] := bd_of T.f__law_text.T fun _ _ _ _ _ _ us ws h1 h2 => match us, ws, h1, h2 with | [_], [], _, _ => rfl
theorem Txt.b_caught_0_k2 (T : Txt K mg) : Bd T.f_caught.fd ["house", "lots"] 0 ["house", "lots"] := bd_of T.f_caught.T fun _ _ _ _ _ _ us ws h1 h2 => match us, ws, h1, h2 with | [], [_, _], _, _ => rfl
theorem Txt.b_may_lurk_2 (T : Txt K mg) : Bd T.f_may_lurk.fd ["house", "lots"] 2 [] := bd_of T.f_may_lurk.T fun _ _ _ _ _ _ us ws h1 h2 => match us, ws, h1, h2 with | [_, _], [], _, _ => rfl
theorem Txt.b__law_cells_2 (T : Txt K mg) : Bd T.f__law_cells.fd ["script", "limit"] 2 [] := bd_of T.f__law_cells.T fun _ _ _ _ _ _ us ws h1 h2 => match us, ws, h1, h2 with | [_, _], [], _, _ => rfl
theorem Txt.b__law_pot_2 (T : Txt K mg) : Bd T.f__law_pot.fd ["script", "place"] 2 [] := bd_of T.f__law_pot.T fun _ _ _ _ _ _ us ws h1 h2 => match us, ws, h1, h2 with | [_, _], [], _, _ => rfl
theorem Txt.b__law_right_1 (T : Txt K mg) : Bd T.f__law_right.fd ["pot"] 1 [] := bd_of T.f__law_right.T fun _ _ _ _ _ _ us ws h1 h2 => match us, ws, h1, h2 with | [_], [], _, _ => rfl
theorem Txt.b_is_name_1 (T : Txt K mg) : Bd T.f_is_name.fd ["value"] 1 [] := bd_of T.f_is_name.T fun _ _ _ _ _ _ us ws h1 h2 => match us, ws, h1, h2 with | [_], [], _, _ => rfl
theorem sc_is_name : FnScope ["value", "sign"] ["value"] (defScope s_is_name) := ⟨rfl, rfl, rfl, by decide +kernel, rfl, by decide +kernel, by decide +kernel⟩
theorem d_is_name (T : Txt K mg) (S : Sps)   {W : WX} {f : Addr} {cdv : Value} {A : Around} {outer : List Env} {s : Shared} {H : Hp} {E : XK} (hr : Room 0 (A.deeper (envOfC "is_name" (defScope s_is_name) s.heap.objs.size f cdv)))
    (hF : FmP (cxOf (L2.CX P w) P w K mg base ["value", "sign"] "is_name" (defScope s_is_name) f cdv A outer s H E) K W w) : RSs (fmOf _ K W w hF) (defBody s_is_name) (w_is_name S T.C) := by
  unfold w_is_name
  exact (rss_cons (rs_if (rw_t (rw_or (rt_not (rt_v (re_isTy "str" (rr_n 0) (fun _ => T.n_isinstance) (fun _ => T.n_str)))) (rw_or (rt_not (rt_chain od_lt od_le (rr_e re_int) (rr_e (re_b cd_len (fun _ => T.n_len) (rrs_cons (rr_n 0) rrs_nil))) (rr_e (re_gI (fun _ => T.c_MOST_SIGNS.choose_spec))))) (rw_or1 (rt_cmp od_notIn (rr_e (re_ix (rr_n 0) (rr_e re_int))) (rr_e (re_gS (fun _ => T.c_LETTERS.choose_spec)))))))) (rss_one (rs_ret re_bl)) rss_nil)
  (rss_one (rs_ret (re_b cd_all (fun _ => T.n_all) (rrs_cons (rr_e (re_lc (ri_st (re_n 0)) (own := [("sign", 1)]) (fun _ => blkOk_by (N := ["value", "sign"]) (sc := defScope s_is_name) (by decide +kernel)) (rg_n 1 (by decide)) rts_nil (re_or (re_cmp od_in (rr_n 1) (rr_e (re_gS (fun _ => T.c_LETTERS.choose_spec)))) (re_one (re_cmp od_in (rr_n 1) (rr_e (re_gS (fun _ => T.c_FIGURES.choose_spec)))))))) rrs_nil)))))
theorem g_is_name (T : Txt K mg) (S : Sps)   (keep : keeps [.fz] 2 S.is_name (w_is_name S T.C)) : FnG P w K mg base 1 T.f_is_name.f T.f_is_name.fd ["value"] (spL K [.fz] S.is_name) :=
  FnG.pu T.f_is_name.T sc_is_name rfl (by decide) (fun W cdv A outer s H E hF hr => d_is_name T S   hr hF) keep
theorem sc_check_house : FnScope ["house"] ["house"] (defScope s_check_house) := ⟨rfl, rfl, rfl, by decide +kernel, rfl, by decide +kernel, by decide +kernel⟩
theorem d_check_house (T : Txt K mg) (S : Sps)   {W : WX} {f : Addr} {cdv : Value} {A : Around} {outer : List Env} {s : Shared} {H : Hp} {E : XK} (hr : Room 6 (A.deeper (envOfC "check_house" (defScope s_check_house) s.heap.objs.size f cdv)))
    (hF : FmP (cxOf (L2.CX P w) P w K mg base ["house"] "check_house" (defScope s_check_house) f cdv A outer s H E) K W w) : RSs (fmOf _ K W w hF) (defBody s_check_house) (w_check_house S T.C) := by
  unfold w_check_house
  exact (rss_one (rs_if (rt_not (rt_v (re_isC T.C T.ic (rr_n 0) (fun _ => T.n_isinstance) (fun _ => T.mH)))) (rss_one rs_never) rss_nil))
theorem g_check_house (T : Txt K mg) (S : Sps)   (keep : keeps [.fz] 1 S.check_house (w_check_house S T.C)) : FnG P w K mg base 7 T.f_check_house.f T.f_check_house.fd ["house"] (spL K [.fz] S.check_house) :=
  FnG.pu T.f_check_house.T sc_check_house rfl (by decide) (fun W cdv A outer s H E hF hr => d_check_house T S   hr hF) keep
theorem sc_is_lot_of : FnScope ["house", "value", "room"] ["house", "value"] (defScope s_is_lot_of) := ⟨rfl, rfl, rfl, by decide +kernel, rfl, by decide +kernel, by decide +kernel⟩
theorem d_is_lot_of (T : Txt K mg) (S : Sps)   {W : WX} {f : Addr} {cdv : Value} {A : Around} {outer : List Env} {s : Shared} {H : Hp} {E : XK} (hr : Room 3 (A.deeper (envOfC "is_lot_of" (defScope s_is_lot_of) s.heap.objs.size f cdv)))
    (hF : FmP (cxOf (L2.CX P w) P w K mg base ["house", "value", "room"] "is_lot_of" (defScope s_is_lot_of) f cdv A outer s H E) K W w) : RSs (fmOf _ K W w hF) (defBody s_is_lot_of) (w_is_lot_of S T.C) := by
  unfold w_is_lot_of
  exact (rss_cons (rs_if (rw_t (rw_or (rt_not (rt_v (re_isTy "tuple" (rr_n 1) (fun _ => T.n_isinstance) (fun _ => T.n_tuple)))) (rw_or1 (rt_not (rt_v (re_b cd_all (fun _ => T.n_all) (rrs_cons (rr_e (re_lc (ri_sq (re_n 1)) (own := [("room", 2)]) (fun _ => blkOk_by (N := ["house", "value", "room"]) (sc := defScope s_is_lot_of) (by decide +kernel)) (rg_n 2 (by decide)) rts_nil (re_isTy "str" (rr_n 2) (fun _ => T.n_isinstance) (fun _ => T.n_str)))) rrs_nil))))))) (rss_one (rs_ret re_bl)) rss_nil)
  (rss_one (rs_ret (re_cmp od_eq (rr_n 1) (rr_e (re_ty cd_tuple (fun _ => T.n_tuple) (rrs_cons (rr_e (re_lc (ri_sq (re_propT T.cl T.p_rooms (fun _ => T.g_rooms) (fun _ => hr.mono (by decide)) T.b_rooms (rr_n 0))) (own := [("room", 2)]) (fun _ => blkOk_by (N := ["house", "value", "room"]) (sc := defScope s_is_lot_of) (by decide +kernel)) (rg_n 2 (by decide)) (rts_one (rt_cmp od_in (rr_n 2) (rr_n 1))) (re_n 2))) rrs_nil)))))))
theorem g_is_lot_of (T : Txt K mg) (S : Sps)   (keep : keeps [.fz, .fz] 3 S.is_lot_of (w_is_lot_of S T.C)) : FnG P w K mg base 4 T.f_is_lot_of.f T.f_is_lot_of.fd ["house", "value"] (spL K [.fz, .fz] S.is_lot_of) :=
  FnG.pu T.f_is_lot_of.T sc_is_lot_of rfl (by decide) (fun W cdv A outer s H E hF hr => d_is_lot_of T S   hr hF) keep
theorem sc_bits_of : FnScope ["house", "lot", "at", "room"] ["house", "lot"] (defScope s_bits_of) := ⟨rfl, rfl, rfl, by decide +kernel, rfl, by decide +kernel, by decide +kernel⟩
theorem d_bits_of (T : Txt K mg) (S : Sps)   {W : WX} {f : Addr} {cdv : Value} {A : Around} {outer : List Env} {s : Shared} {H : Hp} {E : XK} (hr : Room 3 (A.deeper (envOfC "bits_of" (defScope s_bits_of) s.heap.objs.size f cdv)))
    (hF : FmP (cxOf (L2.CX P w) P w K mg base ["house", "lot", "at", "room"] "bits_of" (defScope s_bits_of) f cdv A outer s H E) K W w) : RSs (fmOf _ K W w hF) (defBody s_bits_of) (w_bits_of S T.C) := by
  unfold w_bits_of
  exact (rss_one (rs_ret (re_b cd_sum (fun _ => T.n_sum) (rrs_cons (rr_e (re_lc (ri_en (re_propT T.cl T.p_rooms (fun _ => T.g_rooms) (fun _ => hr.mono (by decide)) T.b_rooms (rr_n 0)) (fun _ => T.n_enumerate)) (own := [("at", 2), ("room", 3)]) (fun _ => blkOk_by (N := ["house", "lot", "at", "room"]) (sc := defScope s_bits_of) (by decide +kernel)) (rg_tn (rgs_cons (rg_n 2 (by decide)) (rgs_cons (rg_n 3 (by decide)) rgs_nil))) (rts_one (rt_cmp od_in (rr_n 3) (rr_n 1))) (re_op od_shl (rr_e re_int) (rr_n 2)))) rrs_nil))))
theorem g_bits_of (T : Txt K mg) (S : Sps)   (keep : keeps [.fz, .fz] 4 S.bits_of (w_bits_of S T.C)) : FnG P w K mg base 4 T.f_bits_of.f T.f_bits_of.fd ["house", "lot"] (spL K [.fz, .fz] S.bits_of) :=
  FnG.pu T.f_bits_of.T sc_bits_of rfl (by decide) (fun W cdv A outer s H E hF hr => d_bits_of T S   hr hF) keep
theorem sc_lot_of : FnScope ["house", "bits", "at", "room"] ["house", "bits"] (defScope s_lot_of) := ⟨rfl, rfl, rfl, by decide +kernel, rfl, by decide +kernel, by decide +kernel⟩
theorem d_lot_of (T : Txt K mg) (S : Sps)   {W : WX} {f : Addr} {cdv : Value} {A : Around} {outer : List Env} {s : Shared} {H : Hp} {E : XK} (hr : Room 3 (A.deeper (envOfC "lot_of" (defScope s_lot_of) s.heap.objs.size f cdv)))
    (hF : FmP (cxOf (L2.CX P w) P w K mg base ["house", "bits", "at", "room"] "lot_of" (defScope s_lot_of) f cdv A outer s H E) K W w) : RSs (fmOf _ K W w hF) (defBody s_lot_of) (w_lot_of S T.C) := by
  unfold w_lot_of
  exact (rss_one (rs_ret (re_ty cd_tuple (fun _ => T.n_tuple) (rrs_cons (rr_e (re_lc (ri_en (re_propT T.cl T.p_rooms (fun _ => T.g_rooms) (fun _ => hr.mono (by decide)) T.b_rooms (rr_n 0)) (fun _ => T.n_enumerate)) (own := [("at", 2), ("room", 3)]) (fun _ => blkOk_by (N := ["house", "bits", "at", "room"]) (sc := defScope s_lot_of) (by decide +kernel)) (rg_tn (rgs_cons (rg_n 2 (by decide)) (rgs_cons (rg_n 3 (by decide)) rgs_nil))) (rts_one (rt_cmp od_eq (rr_e (re_op od_and (rr_e (re_op od_shr (rr_n 1) (rr_n 2))) (rr_e re_int))) (rr_e re_int))) (re_n 3))) rrs_nil))))
theorem g_lot_of (T : Txt K mg) (S : Sps)   (keep : keeps [.fz, .fz] 4 S.lot_of (w_lot_of S T.C)) : FnG P w K mg base 4 T.f_lot_of.f T.f_lot_of.fd ["house", "bits"] (spL K [.fz, .fz] S.lot_of) :=
  FnG.pu T.f_lot_of.T sc_lot_of rfl (by decide) (fun W cdv A outer s H E hF hr => d_lot_of T S   hr hF) keep
theorem sc_near_of : FnScope ["house", "found", "one", "other", "here", "there"] ["house"] (defScope s_near_of) := ⟨rfl, rfl, rfl, by decide +kernel, rfl, by decide +kernel, by decide +kernel⟩
theorem d_near_of (T : Txt K mg) (S : Sps)   {W : WX} {f : Addr} {cdv : Value} {A : Around} {outer : List Env} {s : Shared} {H : Hp} {E : XK} (hr : Room 3 (A.deeper (envOfC "near_of" (defScope s_near_of) s.heap.objs.size f cdv)))
    (hF : FmP (cxOf (L2.CX P w) P w K mg base ["house", "found", "one", "other", "here", "there"] "near_of" (defScope s_near_of) f cdv A outer s H E) K W w) : RSs (fmOf _ K W w hF) (defBody s_near_of) (w_near_of S T.C) := by
  unfold w_near_of
  exact (rss_cons (rs_set 1 (re_op od_mul (rr_e (re_lst (rvs_cons re_int rvs_nil))) (rr_e (re_b cd_len (fun _ => T.n_len) (rrs_cons (rr_e (re_propT T.cl T.p_rooms (fun _ => T.g_rooms) (fun _ => hr.mono (by decide)) T.b_rooms (rr_n 0))) rrs_nil)))))
  (rss_cons (rs_for (vs := [2, 3]) (ri_sq (re_propT T.cl T.p_doors (fun _ => T.g_doors) (fun _ => hr.mono (by decide)) T.b_doors (rr_n 0))) (rg_tn (rgs_cons (rg_n 2 (by decide)) (rgs_cons (rg_n 3 (by decide)) rgs_nil))) (rss_cons (rs_par (rhs_cons (re_tix (re_prop T.cl T.p_rooms (fun _ => T.g_rooms) (fun _ => hr.mono (by decide)) T.b_rooms (rr_n 0)) (rrs_cons (rr_n 2) rrs_nil)) (rhs_cons (re_tix (re_prop T.cl T.p_rooms (fun _ => T.g_rooms) (fun _ => hr.mono (by decide)) T.b_rooms (rr_n 0)) (rrs_cons (rr_n 3) rrs_nil)) rhs_nil)))
  (rss_one (rs_asg (vs := []) (re_tup (rvs_cons (re_op od_or (rr_e (re_ix (rr_n 1) (rr_n 4))) (rr_e (re_op od_shl (rr_e re_int) (rr_n 5)))) (rvs_cons (re_op od_or (rr_e (re_ix (rr_n 1) (rr_n 5))) (rr_e (re_op od_shl (rr_e re_int) (rr_n 4)))) rvs_nil))) (rg_tn (rgs_cons (rg_ix 1 (rr_n 4)) (rgs_cons (rg_ix 1 (rr_n 5)) rgs_nil)))))))
  (rss_one (rs_ret (re_n 1)))))
theorem g_near_of (T : Txt K mg) (S : Sps)   (keep : keeps [.fz] 6 S.near_of (w_near_of S T.C)) : FnG P w K mg base 4 T.f_near_of.f T.f_near_of.fd ["house"] (spL K [.fz] S.near_of) :=
  FnG.pu T.f_near_of.T sc_near_of rfl (by decide) (fun W cdv A outer s H E hF hr => d_near_of T S   hr hF) keep
theorem sc_full_of : FnScope ["house"] ["house"] (defScope s_full_of) := ⟨rfl, rfl, rfl, by decide +kernel, rfl, by decide +kernel, by decide +kernel⟩
theorem d_full_of (T : Txt K mg) (S : Sps)   {W : WX} {f : Addr} {cdv : Value} {A : Around} {outer : List Env} {s : Shared} {H : Hp} {E : XK} (hr : Room 3 (A.deeper (envOfC "full_of" (defScope s_full_of) s.heap.objs.size f cdv)))
    (hF : FmP (cxOf (L2.CX P w) P w K mg base ["house"] "full_of" (defScope s_full_of) f cdv A outer s H E) K W w) : RSs (fmOf _ K W w hF) (defBody s_full_of) (w_full_of S T.C) := by
  unfold w_full_of
  exact (rss_one (rs_ret (re_op od_sub (rr_e (re_op od_shl (rr_e re_int) (rr_e (re_b cd_len (fun _ => T.n_len) (rrs_cons (rr_e (re_propT T.cl T.p_rooms (fun _ => T.g_rooms) (fun _ => hr.mono (by decide)) T.b_rooms (rr_n 0))) rrs_nil))))) (rr_e re_int))))
theorem g_full_of (T : Txt K mg) (S : Sps)   (keep : keeps [.fz] 1 S.full_of (w_full_of S T.C)) : FnG P w K mg base 4 T.f_full_of.f T.f_full_of.fd ["house"] (spL K [.fz] S.full_of) :=
  FnG.pu T.f_full_of.T sc_full_of rfl (by decide) (fun W cdv A outer s H E hF hr => d_full_of T S   hr hF) keep
theorem sc_are_lots : FnScope ["house", "value", "lot"] ["house", "value"] (defScope s_are_lots) := ⟨rfl, rfl, rfl, by decide +kernel, rfl, by decide +kernel, by decide +kernel⟩
theorem d_are_lots (T : Txt K mg) (S : Sps) (kp_is_lot_of : FnG P w K mg base 4 T.f_is_lot_of.f T.f_is_lot_of.fd ["house", "value"] (spL K [.fz, .fz] S.is_lot_of))  {W : WX} {f : Addr} {cdv : Value} {A : Around} {outer : List Env} {s : Shared} {H : Hp} {E : XK} (hr : Room 4 (A.deeper (envOfC "are_lots" (defScope s_are_lots) s.heap.objs.size f cdv)))
    (hF : FmP (cxOf (L2.CX P w) P w K mg base ["house", "value", "lot"] "are_lots" (defScope s_are_lots) f cdv A outer s H E) K W w) : RSs (fmOf _ K W w hF) (defBody s_are_lots) (w_are_lots S T.C) := by
  unfold w_are_lots
  exact (rss_one (rs_ret (re_and (re_isTy "tuple" (rr_n 1) (fun _ => T.n_isinstance) (fun _ => T.n_tuple)) (re_and (re_cmp od_ne (rr_n 1) (rr_e (re_tup rvs_nil))) (re_one (re_b cd_all (fun _ => T.n_all) (rrs_cons (rr_e (re_lc (ri_sq (re_n 1)) (own := [("lot", 2)]) (fun _ => blkOk_by (N := ["house", "value", "lot"]) (sc := defScope s_are_lots) (by decide +kernel)) (rg_n 2 (by decide)) rts_nil (re_call (fun _ => ⟨kp_is_lot_of, hr.mono (by decide)⟩) (fun _ => T.f_is_lot_of.m) T.f_is_lot_of.k T.b_is_lot_of_2 (ras_v (re_n 0) (ras_v (re_n 2) ras_nil))))) rrs_nil)))))))
theorem g_are_lots (T : Txt K mg) (S : Sps) (kp_is_lot_of : FnG P w K mg base 4 T.f_is_lot_of.f T.f_is_lot_of.fd ["house", "value"] (spL K [.fz, .fz] S.is_lot_of))  (keep : keeps [.fz, .fz] 3 S.are_lots (w_are_lots S T.C)) : FnG P w K mg base 5 T.f_are_lots.f T.f_are_lots.fd ["house", "value"] (spL K [.fz, .fz] S.are_lots) :=
  FnG.pu T.f_are_lots.T sc_are_lots rfl (by decide) (fun W cdv A outer s H E hF hr => d_are_lots T S kp_is_lot_of  hr hF) keep
theorem sc_check_looks : FnScope ["house", "lots"] ["house", "lots"] (defScope s_check_looks) := ⟨rfl, rfl, rfl, by decide +kernel, rfl, by decide +kernel, by decide +kernel⟩
theorem d_check_looks (T : Txt K mg) (S : Sps) (kp_check_house : FnG P w K mg base 7 T.f_check_house.f T.f_check_house.fd ["house"] (spL K [.fz] S.check_house)) (kp_are_lots : FnG P w K mg base 5 T.f_are_lots.f T.f_are_lots.fd ["house", "value"] (spL K [.fz, .fz] S.are_lots))  {W : WX} {f : Addr} {cdv : Value} {A : Around} {outer : List Env} {s : Shared} {H : Hp} {E : XK} (hr : Room 7 (A.deeper (envOfC "check_looks" (defScope s_check_looks) s.heap.objs.size f cdv)))
    (hF : FmP (cxOf (L2.CX P w) P w K mg base ["house", "lots"] "check_looks" (defScope s_check_looks) f cdv A outer s H E) K W w) : RSs (fmOf _ K W w hF) (defBody s_check_looks) (w_check_looks S T.C) := by
  unfold w_check_looks
  exact (rss_cons (rs_drop (re_call (fun _ => ⟨kp_check_house, hr.mono (by decide)⟩) (fun _ => T.f_check_house.m) T.f_check_house.k T.b_check_house_1 (ras_v (re_n 0) ras_nil)))
  (rss_one (rs_if (rw_t (rw_or (rt_not (rt_v (re_call (fun _ => ⟨kp_are_lots, hr.mono (by decide)⟩) (fun _ => T.f_are_lots.m) T.f_are_lots.k T.b_are_lots_2 (ras_v (re_n 0) (ras_v (re_n 1) ras_nil))))) (rw_or1 (rt_cmp od_gt (rr_e (re_b cd_len (fun _ => T.n_len) (rrs_cons (rr_n 1) rrs_nil))) (rr_e (re_gI (fun _ => T.c_MOST_LOOKS.choose_spec))))))) (rss_one rs_never) rss_nil)))
theorem g_check_looks (T : Txt K mg) (S : Sps) (kp_check_house : FnG P w K mg base 7 T.f_check_house.f T.f_check_house.fd ["house"] (spL K [.fz] S.check_house)) (kp_are_lots : FnG P w K mg base 5 T.f_are_lots.f T.f_are_lots.fd ["house", "value"] (spL K [.fz, .fz] S.are_lots))  (keep : keeps [.fz, .fz] 2 S.check_looks (w_check_looks S T.C)) : FnG P w K mg base 8 T.f_check_looks.f T.f_check_looks.fd ["house", "lots"] (spL K [.fz, .fz] S.check_looks) :=
  FnG.pu T.f_check_looks.T sc_check_looks rfl (by decide) (fun W cdv A outer s H E hF hr => d_check_looks T S kp_check_house kp_are_lots  hr hF) keep
theorem sc_come_from : FnScope ["near", "bits", "found", "at", "beside"] ["near", "bits"] (defScope s_come_from) := ⟨rfl, rfl, rfl, by decide +kernel, rfl, by decide +kernel, by decide +kernel⟩
theorem d_come_from (T : Txt K mg) (S : Sps)   {W : WX} {f : Addr} {cdv : Value} {A : Around} {outer : List Env} {s : Shared} {H : Hp} {E : XK} (hr : Room 0 (A.deeper (envOfC "come_from" (defScope s_come_from) s.heap.objs.size f cdv)))
    (hF : FmP (cxOf (L2.CX P w) P w K mg base ["near", "bits", "found", "at", "beside"] "come_from" (defScope s_come_from) f cdv A outer s H E) K W w) : RSs (fmOf _ K W w hF) (defBody s_come_from) (w_come_from S T.C) := by
  unfold w_come_from
  exact (rss_cons (rs_set 2 re_int)
  (rss_cons (rs_for (vs := [3, 4]) (ri_en (re_n 0) (fun _ => T.n_enumerate)) (rg_tn (rgs_cons (rg_n 3 (by decide)) (rgs_cons (rg_n 4 (by decide)) rgs_nil))) (rss_one (rs_if (rt_cmp od_eq (rr_e (re_op od_and (rr_e (re_op od_shr (rr_n 1) (rr_n 3))) (rr_e re_int))) (rr_e re_int)) (rss_one (rs_set 2 (re_op od_or (rr_n 2) (rr_e (re_if (rt_cmp od_ne (rr_n 4) (rr_e re_int)) (re_n 4) (re_op od_shl (rr_e re_int) (rr_n 3))))))) rss_nil)))
  (rss_one (rs_ret (re_n 2)))))
theorem g_come_from (T : Txt K mg) (S : Sps)   (keep : keeps [.fz, .fz] 5 S.come_from (w_come_from S T.C)) : FnG P w K mg base 1 T.f_come_from.f T.f_come_from.fd ["near", "bits"] (spL K [.fz, .fz] S.come_from) :=
  FnG.pu T.f_come_from.T sc_come_from rfl (by decide) (fun W cdv A outer s H E hF hr => d_come_from T S   hr hF) keep
theorem sc_may_lurk_by : FnScope ["house", "lots", "near", "there", "found", "lot"] ["house", "lots"] (defScope s_may_lurk_by) := ⟨rfl, rfl, rfl, by decide +kernel, rfl, by decide +kernel, by decide +kernel⟩
theorem d_may_lurk_by (T : Txt K mg) (S : Sps) (kp_near_of : FnG P w K mg base 4 T.f_near_of.f T.f_near_of.fd ["house"] (spL K [.fz] S.near_of)) (kp_full_of : FnG P w K mg base 4 T.f_full_of.f T.f_full_of.fd ["house"] (spL K [.fz] S.full_of)) (kp_bits_of : FnG P w K mg base 4 T.f_bits_of.f T.f_bits_of.fd ["house", "lot"] (spL K [.fz, .fz] S.bits_of)) (kp_come_from : FnG P w K mg base 1 T.f_come_from.f T.f_come_from.fd ["near", "bits"] (spL K [.fz, .fz] S.come_from))  {W : WX} {f : Addr} {cdv : Value} {A : Around} {outer : List Env} {s : Shared} {H : Hp} {E : XK} (hr : Room 4 (A.deeper (envOfC "may_lurk_by" (defScope s_may_lurk_by) s.heap.objs.size f cdv)))
    (hF : FmP (cxOf (L2.CX P w) P w K mg base ["house", "lots", "near", "there", "found", "lot"] "may_lurk_by" (defScope s_may_lurk_by) f cdv A outer s H E) K W w) : RSs (fmOf _ K W w hF) (defBody s_may_lurk_by) (w_may_lurk_by S T.C) := by
  unfold w_may_lurk_by
  exact (rss_cons (rs_par3 (rhs_cons (re_call (fun _ => ⟨kp_near_of, hr.mono (by decide)⟩) (fun _ => T.f_near_of.m) T.f_near_of.k T.b_near_of_1 (ras_v (re_n 0) ras_nil)) (rhs_cons (re_call (fun _ => ⟨kp_full_of, hr.mono (by decide)⟩) (fun _ => T.f_full_of.m) T.f_full_of.k T.b_full_of_1 (ras_v (re_n 0) ras_nil)) (rhs_cons (re_lst rvs_nil) rhs_nil))))
  (rss_cons (rs_for (vs := [5]) (ri_sq (re_n 1)) (rg_n 5 (by decide)) (rss_cons (rs_set 3 (re_op od_and (rr_n 3) (rr_e (re_un ud_inv (rr_e (re_call (fun _ => ⟨kp_bits_of, hr.mono (by decide)⟩) (fun _ => T.f_bits_of.m) T.f_bits_of.k T.b_bits_of_2 (ras_v (re_n 0) (ras_v (re_n 5) ras_nil))))))))
  (rss_cons (rs_drop (re_append 4 (rvs_cons (re_n 3) rvs_nil)))
  (rss_one (rs_set 3 (re_call (fun _ => ⟨kp_come_from, hr.mono (by decide)⟩) (fun _ => T.f_come_from.m) T.f_come_from.k T.b_come_from_2 (ras_v (re_n 2) (ras_v (re_n 3) ras_nil))))))))
  (rss_one (rs_ret (re_n 4)))))
theorem g_may_lurk_by (T : Txt K mg) (S : Sps) (kp_near_of : FnG P w K mg base 4 T.f_near_of.f T.f_near_of.fd ["house"] (spL K [.fz] S.near_of)) (kp_full_of : FnG P w K mg base 4 T.f_full_of.f T.f_full_of.fd ["house"] (spL K [.fz] S.full_of)) (kp_bits_of : FnG P w K mg base 4 T.f_bits_of.f T.f_bits_of.fd ["house", "lot"] (spL K [.fz, .fz] S.bits_of)) (kp_come_from : FnG P w K mg base 1 T.f_come_from.f T.f_come_from.fd ["near", "bits"] (spL K [.fz, .fz] S.come_from))  (keep : keeps [.fz, .fz] 6 S.may_lurk_by (w_may_lurk_by S T.C)) : FnG P w K mg base 5 T.f_may_lurk_by.f T.f_may_lurk_by.fd ["house", "lots"] (spL K [.fz, .fz] S.may_lurk_by) :=
  FnG.pu T.f_may_lurk_by.T sc_may_lurk_by rfl (by decide) (fun W cdv A outer s H E hF hr => d_may_lurk_by T S kp_near_of kp_full_of kp_bits_of kp_come_from  hr hF) keep
theorem sc_may_lurk : FnScope ["house", "lots", "bits"] ["house", "lots"] (defScope s_may_lurk) := ⟨rfl, rfl, rfl, by decide +kernel, rfl, by decide +kernel, by decide +kernel⟩
theorem d_may_lurk (T : Txt K mg) (S : Sps) (kp_check_looks : FnG P w K mg base 8 T.f_check_looks.f T.f_check_looks.fd ["house", "lots"] (spL K [.fz, .fz] S.check_looks)) (kp_may_lurk_by : FnG P w K mg base 5 T.f_may_lurk_by.f T.f_may_lurk_by.fd ["house", "lots"] (spL K [.fz, .fz] S.may_lurk_by)) (kp_lot_of : FnG P w K mg base 4 T.f_lot_of.f T.f_lot_of.fd ["house", "bits"] (spL K [.fz, .fz] S.lot_of))  {W : WX} {f : Addr} {cdv : Value} {A : Around} {outer : List Env} {s : Shared} {H : Hp} {E : XK} (hr : Room 8 (A.deeper (envOfC "may_lurk" (defScope s_may_lurk) s.heap.objs.size f cdv)))
    (hF : FmP (cxOf (L2.CX P w) P w K mg base ["house", "lots", "bits"] "may_lurk" (defScope s_may_lurk) f cdv A outer s H E) K W w) : RSs (fmOf _ K W w hF) (defBody s_may_lurk) (w_may_lurk S T.C) := by
  unfold w_may_lurk
  exact (rss_cons (rs_drop (re_call (fun _ => ⟨kp_check_looks, hr.mono (by decide)⟩) (fun _ => T.f_check_looks.m) T.f_check_looks.k T.b_check_looks_2 (ras_v (re_n 0) (ras_v (re_n 1) ras_nil))))
  (rss_one (rs_ret (re_ty cd_tuple (fun _ => T.n_tuple) (rrs_cons (rr_e (re_lc (ri_sq (re_call (fun _ => ⟨kp_may_lurk_by, hr.mono (by decide)⟩) (fun _ => T.f_may_lurk_by.m) T.f_may_lurk_by.k T.b_may_lurk_by_2 (ras_v (re_n 0) (ras_v (re_n 1) ras_nil)))) (own := [("bits", 2)]) (fun _ => blkOk_by (N := ["house", "lots", "bits"]) (sc := defScope s_may_lurk) (by decide +kernel)) (rg_n 2 (by decide)) rts_nil (re_call (fun _ => ⟨kp_lot_of, hr.mono (by decide)⟩) (fun _ => T.f_lot_of.m) T.f_lot_of.k T.b_lot_of_2 (ras_v (re_n 0) (ras_v (re_n 2) ras_nil))))) rrs_nil)))))
theorem g_may_lurk (T : Txt K mg) (S : Sps) (kp_check_looks : FnG P w K mg base 8 T.f_check_looks.f T.f_check_looks.fd ["house", "lots"] (spL K [.fz, .fz] S.check_looks)) (kp_may_lurk_by : FnG P w K mg base 5 T.f_may_lurk_by.f T.f_may_lurk_by.fd ["house", "lots"] (spL K [.fz, .fz] S.may_lurk_by)) (kp_lot_of : FnG P w K mg base 4 T.f_lot_of.f T.f_lot_of.fd ["house", "bits"] (spL K [.fz, .fz] S.lot_of))  (keep : keeps [.fz, .fz] 3 S.may_lurk (w_may_lurk S T.C)) : FnG P w K mg base 9 T.f_may_lurk.f T.f_may_lurk.fd ["house", "lots"] (spL K [.fz, .fz] S.may_lurk) :=
  FnG.pu T.f_may_lurk.T sc_may_lurk rfl (by decide) (fun W cdv A outer s H E hF hr => d_may_lurk T S kp_check_looks kp_may_lurk_by kp_lot_of  hr hF) keep
theorem sc_does_catch : FnScope ["house", "lots"] ["house", "lots"] (defScope s_does_catch) := ⟨rfl, rfl, rfl, by decide +kernel, rfl, by decide +kernel, by decide +kernel⟩
theorem d_does_catch (T : Txt K mg) (S : Sps) (kp_may_lurk_by : FnG P w K mg base 5 T.f_may_lurk_by.f T.f_may_lurk_by.fd ["house", "lots"] (spL K [.fz, .fz] S.may_lurk_by))  {W : WX} {f : Addr} {cdv : Value} {A : Around} {outer : List Env} {s : Shared} {H : Hp} {E : XK} (hr : Room 5 (A.deeper (envOfC "does_catch" (defScope s_does_catch) s.heap.objs.size f cdv)))
    (hF : FmP (cxOf (L2.CX P w) P w K mg base ["house", "lots"] "does_catch" (defScope s_does_catch) f cdv A outer s H E) K W w) : RSs (fmOf _ K W w hF) (defBody s_does_catch) (w_does_catch S T.C) := by
  unfold w_does_catch
  exact (rss_one (rs_ret (re_cmp od_in (rr_e re_int) (rr_e (re_call (fun _ => ⟨kp_may_lurk_by, hr.mono (by decide)⟩) (fun _ => T.f_may_lurk_by.m) T.f_may_lurk_by.k T.b_may_lurk_by_2 (ras_v (re_n 0) (ras_v (re_n 1) ras_nil)))))))
theorem g_does_catch (T : Txt K mg) (S : Sps) (kp_may_lurk_by : FnG P w K mg base 5 T.f_may_lurk_by.f T.f_may_lurk_by.fd ["house", "lots"] (spL K [.fz, .fz] S.may_lurk_by))  (keep : keeps [.fz, .fz] 2 S.does_catch (w_does_catch S T.C)) : FnG P w K mg base 6 T.f_does_catch.f T.f_does_catch.fd ["house", "lots"] (spL K [.fz, .fz] S.does_catch) :=
  FnG.pu T.f_does_catch.T sc_does_catch rfl (by decide) (fun W cdv A outer s H E hF hr => d_does_catch T S kp_may_lurk_by  hr hF) keep
theorem sc_caught : FnScope ["house", "lots"] ["house", "lots"] (defScope s_caught) := ⟨rfl, rfl, rfl, by decide +kernel, rfl, by decide +kernel, by decide +kernel⟩
theorem d_caught (T : Txt K mg) (S : Sps) (kp_check_looks : FnG P w K mg base 8 T.f_check_looks.f T.f_check_looks.fd ["house", "lots"] (spL K [.fz, .fz] S.check_looks)) (kp_does_catch : FnG P w K mg base 6 T.f_does_catch.f T.f_does_catch.fd ["house", "lots"] (spL K [.fz, .fz] S.does_catch))  {W : WX} {f : Addr} {cdv : Value} {A : Around} {outer : List Env} {s : Shared} {H : Hp} {E : XK} (hr : Room 8 (A.deeper (envOfC "caught" (defScope s_caught) s.heap.objs.size f cdv)))
    (hF : FmP (cxOf (L2.CX P w) P w K mg base ["house", "lots"] "caught" (defScope s_caught) f cdv A outer s H E) K W w) : RSs (fmOf _ K W w hF) (defBody s_caught) (w_caught S T.C) := by
  unfold w_caught
  exact (rss_cons (rs_drop (re_call (fun _ => ⟨kp_check_looks, hr.mono (by decide)⟩) (fun _ => T.f_check_looks.m) T.f_check_looks.k T.b_check_looks_2 (ras_v (re_n 0) (ras_v (re_n 1) ras_nil))))
  (rss_one (rs_ret (re_call (fun _ => ⟨kp_does_catch, hr.mono (by decide)⟩) (fun _ => T.f_does_catch.m) T.f_does_catch.k T.b_does_catch_2 (ras_v (re_n 0) (ras_v (re_n 1) ras_nil))))))
theorem g_caught (T : Txt K mg) (S : Sps) (kp_check_looks : FnG P w K mg base 8 T.f_check_looks.f T.f_check_looks.fd ["house", "lots"] (spL K [.fz, .fz] S.check_looks)) (kp_does_catch : FnG P w K mg base 6 T.f_does_catch.f T.f_does_catch.fd ["house", "lots"] (spL K [.fz, .fz] S.does_catch))  (keep : keeps [.fz, .fz] 2 S.caught (w_caught S T.C)) : FnG P w K mg base 9 T.f_caught.f T.f_caught.fd ["house", "lots"] (spL K [.fz, .fz] S.caught) :=
  FnG.pu T.f_caught.T sc_caught rfl (by decide) (fun W cdv A outer s H E hF hr => d_caught T S kp_check_looks kp_does_catch  hr hF) keep
theorem sc__law_pot : FnScope ["script", "place", "cell", "own", "small"] ["script", "place"] (defScope s__law_pot) := ⟨rfl, rfl, rfl, by decide +kernel, rfl, by decide +kernel, by decide +kernel⟩
theorem d__law_pot (T : Txt K mg) (S : Sps)   {W : WX} {f : Addr} {cdv : Value} {A : Around} {outer : List Env} {s : Shared} {H : Hp} {E : XK} (hr : Room 0 (A.deeper (envOfC "_law_pot" (defScope s__law_pot) s.heap.objs.size f cdv)))
    (hF : FmP (cxOf (L2.CX P w) P w K mg base ["script", "place", "cell", "own", "small"] "_law_pot" (defScope s__law_pot) f cdv A outer s H E) K W w) : RSs (fmOf _ K W w hF) (defBody s__law_pot) (w__law_pot S T.C) := by
  unfold w__law_pot
  exact (rss_cons (rs_set 2 (re_if (rt_cmp od_lt (rr_n 1) (rr_e (re_b cd_len (fun _ => T.n_len) (rrs_cons (rr_n 0) rrs_nil)))) (re_ix (rr_n 0) (rr_n 1)) (re_op od_add (rr_e (re_op od_mul (rr_e re_int) (rr_n 1))) (rr_e re_int))))
  (rss_cons (rs_set 3 (re_op od_mul (rr_e (re_op od_mod (rr_e (re_ty cd_int (fun _ => T.n_int) (rrs_cons (rr_e (re_b cd_abs (fun _ => T.n_abs) (rrs_cons (rr_n 2) rrs_nil))) rrs_nil))) (rr_e (re_op od_pow (rr_e (re_op od_pow (rr_e re_int) (rr_e re_int))) (rr_e re_int))))) (rr_e (re_ty cd_int (fun _ => T.n_int) (rrs_cons (rr_e (re_cmp od_ge (rr_e (re_b cd_abs (fun _ => T.n_abs) (rrs_cons (rr_n 2) rrs_nil))) (rr_e (re_op od_pow (rr_e re_int) (rr_e re_int))))) rrs_nil)))))
  (rss_cons (rs_set 4 (re_op od_mod (rr_e (re_ty cd_int (fun _ => T.n_int) (rrs_cons (rr_n 2) rrs_nil))) (rr_e re_int)))
  (rss_one (rs_ret (re_lst (rvs_cons (re_n 3) (rvs_cons (re_op od_mod (rr_e (re_ty cd_int (fun _ => T.n_int) (rrs_cons (rr_e (re_op od_add (rr_e (re_op od_add (rr_e (re_op od_mul (rr_n 4) (rr_e re_int))) (rr_e (re_op od_mul (rr_e (re_op od_mul (rr_e re_int) (rr_n 1))) (rr_n 1))))) (rr_e re_int))) rrs_nil))) (rr_e re_int)) (rvs_cons re_int rvs_nil)))))))))
theorem g__law_pot (T : Txt K mg) (S : Sps)   (keep : keeps [.fz, .fz] 5 S._law_pot (w__law_pot S T.C)) : FnG P w K mg base 1 T.f__law_pot.f T.f__law_pot.fd ["script", "place"] (spL K [.fz, .fz] S._law_pot) :=
  FnG.pu T.f__law_pot.T sc__law_pot rfl (by decide) (fun W cdv A outer s H E hF hr => d__law_pot T S   hr hF) keep
theorem sc__law_take : FnScope ["pot", "upto", "digit", "prime", "mixed"] ["pot", "upto"] (defScope s__law_take) := ⟨rfl, rfl, rfl, by decide +kernel, rfl, by decide +kernel, by decide +kernel⟩
theorem d__law_take (T : Txt K mg) (S : Sps)   {W : WX} {f : Addr} {cdv : Value} {A : Around} {outer : List Env} {s : Shared} {H : Hp} {E : XK} (hr : Room 0 (A.deeper (envOfC "_law_take" (defScope s__law_take) s.heap.objs.size f cdv)))
    (hF : FmP (cxOf (L2.CX P w) P w K mg base ["pot", "upto", "digit", "prime", "mixed"] "_law_take" (defScope s__law_take) f cdv A outer s H E) K W w) : RSs (fmOf _ K W w hF) (defBody s__law_take) (w__law_take S T.C) := by
  unfold w__law_take
  exact (rss_cons (rs_if (rt_cmp od_gt (rr_e (re_ix (rr_n 0) (rr_e re_int))) (rr_e re_int)) (rss_cons (rs_set 2 (re_op od_mod (rr_e (re_ty cd_int (fun _ => T.n_int) (rrs_cons (rr_e (re_ix (rr_n 0) (rr_e re_int))) rrs_nil))) (rr_n 1)))
  (rss_cons (rs_asg (vs := []) (re_op od_fdiv (rr_e (re_ix (rr_n 0) (rr_e re_int))) (rr_n 1)) (rg_ix 0 (rr_e re_int)))
  (rss_one (rs_ret (re_n 2))))) rss_nil)
  (rss_cons (rs_asg (vs := []) (re_op od_add (rr_e (re_ix (rr_n 0) (rr_e re_int))) (rr_e re_int)) (rg_ix 0 (rr_e re_int)))
  (rss_cons (rs_set 3 (re_ix (rr_e (re_lst (rvs_cons re_int (rvs_cons re_int (rvs_cons re_int (rvs_cons re_int (rvs_cons re_int rvs_nil))))))) (rr_e (re_op od_mod (rr_e (re_ty cd_int (fun _ => T.n_int) (rrs_cons (rr_e (re_ix (rr_n 0) (rr_e re_int))) rrs_nil))) (rr_e re_int)))))
  (rss_cons (rs_set 4 (re_op od_mod (rr_e (re_ty cd_int (fun _ => T.n_int) (rrs_cons (rr_e (re_op od_pow (rr_e (re_ty cd_int (fun _ => T.n_int) (rrs_cons (rr_e (re_op od_add (rr_e (re_op od_add (rr_e (re_ix (rr_n 0) (rr_e re_int))) (rr_e (re_op od_mul (rr_e (re_op od_mul (rr_e re_int) (rr_e (re_ix (rr_n 0) (rr_e re_int))))) (rr_e (re_ix (rr_n 0) (rr_e re_int))))))) (rr_e re_int))) rrs_nil))) (rr_e re_int))) rrs_nil))) (rr_n 3)))
  (rss_cons (rs_set 4 (re_op od_mod (rr_e (re_ty cd_int (fun _ => T.n_int) (rrs_cons (rr_e (re_op od_mul (rr_n 4) (rr_e (re_op od_add (rr_e (re_op od_mod (rr_e (re_ty cd_int (fun _ => T.n_int) (rrs_cons (rr_n 4) rrs_nil))) (rr_e re_int))) (rr_e (re_op od_mul (rr_e re_int) (rr_e (re_ix (rr_n 0) (rr_e re_int))))))))) rrs_nil))) (rr_e re_int)))
  (rss_one (rs_ret (re_op od_mod (rr_e (re_ty cd_int (fun _ => T.n_int) (rrs_cons (rr_e (re_op od_fdiv (rr_n 4) (rr_e re_int))) rrs_nil))) (rr_n 1)))))))))
theorem g__law_take (T : Txt K mg) (S : Sps)   (keep : keeps [.io, .fz] 5 S._law_take (w__law_take S T.C)) : FnG P w K mg base 1 T.f__law_take.f T.f__law_take.fd ["pot", "upto"] (spL K [.io, .fz] S._law_take) :=
  FnG.pu T.f__law_take.T sc__law_take rfl (by decide) (fun W cdv A outer s H E hF hr => d__law_take T S   hr hF) keep
theorem sc__law_cells : FnScope ["script", "limit"] ["script", "limit"] (defScope s__law_cells) := ⟨rfl, rfl, rfl, by decide +kernel, rfl, by decide +kernel, by decide +kernel⟩
theorem d__law_cells (T : Txt K mg) (S : Sps)   {W : WX} {f : Addr} {cdv : Value} {A : Around} {outer : List Env} {s : Shared} {H : Hp} {E : XK} (hr : Room 0 (A.deeper (envOfC "_law_cells" (defScope s__law_cells) s.heap.objs.size f cdv)))
    (hF : FmP (cxOf (L2.CX P w) P w K mg base ["script", "limit"] "_law_cells" (defScope s__law_cells) f cdv A outer s H E) K W w) : RSs (fmOf _ K W w hF) (defBody s__law_cells) (w__law_cells S T.C) := by
  unfold w__law_cells
  exact (rss_one (rs_ret (re_lrg1 (rr_e (re_b cd_max2 (fun _ => T.n_max) (rrs_cons (rr_e re_int) (rrs_cons (rr_e (re_b cd_min2 (fun _ => T.n_min) (rrs_cons (rr_n 1) (rrs_cons (rr_e (re_b cd_len (fun _ => T.n_len) (rrs_cons (rr_n 0) rrs_nil))) rrs_nil)))) rrs_nil)))) (fun _ => T.n_list) (fun _ => T.n_range))))
theorem g__law_cells (T : Txt K mg) (S : Sps)   (keep : keeps [.fz, .fz] 2 S._law_cells (w__law_cells S T.C)) : FnG P w K mg base 1 T.f__law_cells.f T.f__law_cells.fd ["script", "limit"] (spL K [.fz, .fz] S._law_cells) :=
  FnG.pu T.f__law_cells.T sc__law_cells rfl (by decide) (fun W cdv A outer s H E hF hr => d__law_cells T S   hr hF) keep
theorem sc__law_some : FnScope ["pot", "pool", "amount", "rest", "found", "lap"] ["pot", "pool", "amount"] (defScope s__law_some) := ⟨rfl, rfl, rfl, by decide +kernel, rfl, by decide +kernel, by decide +kernel⟩
theorem d__law_some (T : Txt K mg) (S : Sps) (kp__law_take : FnG P w K mg base 1 T.f__law_take.f T.f__law_take.fd ["pot", "upto"] (spL K [.io, .fz] S._law_take))  {W : WX} {f : Addr} {cdv : Value} {A : Around} {outer : List Env} {s : Shared} {H : Hp} {E : XK} (hr : Room 3 (A.deeper (envOfC "_law_some" (defScope s__law_some) s.heap.objs.size f cdv)))
    (hF : FmP (cxOf (L2.CX P w) P w K mg base ["pot", "pool", "amount", "rest", "found", "lap"] "_law_some" (defScope s__law_some) f cdv A outer s H E) K W w) : RSs (fmOf _ K W w hF) (defBody s__law_some) (w__law_some S T.C) := by
  unfold w__law_some
  exact (rss_cons (rs_par (rhs_cons (re_ty cd_list (fun _ => T.n_list) (rrs_cons (rr_n 1) rrs_nil)) (rhs_cons (re_lst rvs_nil) rhs_nil)))
  (rss_cons (rs_for (vs := [5]) (ri_rng1 (rr_n 2) (fun _ => T.n_range)) (rg_n 5 (by decide)) (rss_one (rs_drop (re_append 4 (rvs_cons (re_popAt 3 (rvs_cons (re_call (fun _ => ⟨kp__law_take, hr.mono (by decide)⟩) (fun _ => T.f__law_take.m) T.f__law_take.k T.b__law_take_2 (ras_s 0 (ras_v (re_b cd_len (fun _ => T.n_len) (rrs_cons (rr_n 3) rrs_nil)) ras_nil))) rvs_nil)) rvs_nil)))))
  (rss_one (rs_ret (re_n 4)))))
theorem g__law_some (T : Txt K mg) (S : Sps) (kp__law_take : FnG P w K mg base 1 T.f__law_take.f T.f__law_take.fd ["pot", "upto"] (spL K [.io, .fz] S._law_take))  (keep : keeps [.io, .fz, .fz] 6 S._law_some (w__law_some S T.C)) : FnG P w K mg base 4 T.f__law_some.f T.f__law_some.fd ["pot", "pool", "amount"] (spL K [.io, .fz, .fz] S._law_some) :=
  FnG.pu T.f__law_some.T sc__law_some rfl (by decide) (fun W cdv A outer s H E hF hr => d__law_some T S kp__law_take  hr hF) keep
theorem sc__law_names : FnScope ["pot", "many", "signs", "names", "word", "at", "lap"] ["pot", "many"] (defScope s__law_names) := ⟨rfl, rfl, rfl, by decide +kernel, rfl, by decide +kernel, by decide +kernel⟩
theorem d__law_names (T : Txt K mg) (S : Sps) (kp__law_some : FnG P w K mg base 4 T.f__law_some.f T.f__law_some.fd ["pot", "pool", "amount"] (spL K [.io, .fz, .fz] S._law_some)) (kp__law_take : FnG P w K mg base 1 T.f__law_take.f T.f__law_take.fd ["pot", "upto"] (spL K [.io, .fz] S._law_take))  {W : WX} {f : Addr} {cdv : Value} {A : Around} {outer : List Env} {s : Shared} {H : Hp} {E : XK} (hr : Room 4 (A.deeper (envOfC "_law_names" (defScope s__law_names) s.heap.objs.size f cdv)))
    (hF : FmP (cxOf (L2.CX P w) P w K mg base ["pot", "many", "signs", "names", "word", "at", "lap"] "_law_names" (defScope s__law_names) f cdv A outer s H E) K W w) : RSs (fmOf _ K W w hF) (defBody s__law_names) (w__law_names S T.C) := by
  unfold w__law_names
  exact (rss_cons (rs_set 2 re_str)
  (rss_cons (rs_set 3 (re_call (fun _ => ⟨kp__law_some, hr.mono (by decide)⟩) (fun _ => T.f__law_some.m) T.f__law_some.k T.b__law_some_3 (ras_s 0 (ras_v (re_op od_add (rr_e (re_lst (rvs_cons re_str (rvs_cons re_str (rvs_cons re_str (rvs_cons re_str (rvs_cons re_str (rvs_cons re_str rvs_nil)))))))) (rr_e (re_lc (ri_rng1 (rr_e re_int) (fun _ => T.n_range)) (own := [("at", 5)]) (fun _ => blkOk_by (N := ["pot", "many", "signs", "names", "word", "at", "lap"]) (sc := defScope s__law_names) (by decide +kernel)) (rg_n 5 (by decide)) rts_nil (re_op od_add (rr_e re_str) (rr_e (re_ty cd_str (fun _ => T.n_str) (rrs_cons (rr_n 5) rrs_nil))))))) (ras_v (re_n 1) ras_nil)))))
  (rss_cons (rs_set 4 (re_op od_add (rr_e re_str) (rr_e (re_join (rr_e re_str) (rrs_cons (rr_e (re_lc (ri_rng1 (rr_e (re_call (fun _ => ⟨kp__law_take, hr.mono (by decide)⟩) (fun _ => T.f__law_take.m) T.f__law_take.k T.b__law_take_2 (ras_s 0 (ras_v re_int ras_nil)))) (fun _ => T.n_range)) (own := [("lap", 6)]) (fun _ => blkOk_by (N := ["pot", "many", "signs", "names", "word", "at", "lap"]) (sc := defScope s__law_names) (by decide +kernel)) (rg_n 6 (by decide)) rts_nil (re_ix (rr_n 2) (rr_e (re_call (fun _ => ⟨kp__law_take, hr.mono (by decide)⟩) (fun _ => T.f__law_take.m) T.f__law_take.k T.b__law_take_2 (ras_s 0 (ras_v re_int ras_nil))))))) rrs_nil)))))
  (rss_one (rs_ret (re_if (rw_t (rw_or (rt_cmp od_gt (rr_e (re_call (fun _ => ⟨kp__law_take, hr.mono (by decide)⟩) (fun _ => T.f__law_take.m) T.f__law_take.k T.b__law_take_2 (ras_s 0 (ras_v re_int ras_nil)))) (rr_e re_int)) (rw_or1 (rt_cmp od_in (rr_n 4) (rr_n 3))))) (re_n 3) (re_op od_add (rr_e (re_sl (rr_n 3) ro_n (ro_s (rr_e (re_un ud_neg (rr_e re_int)))))) (rr_e (re_lst (rvs_cons (re_n 4) rvs_nil))))))))))
theorem g__law_names (T : Txt K mg) (S : Sps) (kp__law_some : FnG P w K mg base 4 T.f__law_some.f T.f__law_some.fd ["pot", "pool", "amount"] (spL K [.io, .fz, .fz] S._law_some)) (kp__law_take : FnG P w K mg base 1 T.f__law_take.f T.f__law_take.fd ["pot", "upto"] (spL K [.io, .fz] S._law_take))  (keep : keeps [.io, .fz] 7 S._law_names (w__law_names S T.C)) : FnG P w K mg base 5 T.f__law_names.f T.f__law_names.fd ["pot", "many"] (spL K [.io, .fz] S._law_names) :=
  FnG.pu T.f__law_names.T sc__law_names rfl (by decide) (fun W cdv A outer s H E hF hr => d__law_names T S kp__law_some kp__law_take  hr hF) keep
theorem sc__law_house : FnScope ["pot", "many", "rooms", "way", "pairs", "at", "other", "toss", "found", "pair"] ["pot", "many"] (defScope s__law_house) := ⟨rfl, rfl, rfl, by decide +kernel, rfl, by decide +kernel, by decide +kernel⟩
theorem d__law_house (T : Txt K mg) (S : Sps) (kp__law_names : FnG P w K mg base 5 T.f__law_names.f T.f__law_names.fd ["pot", "many"] (spL K [.io, .fz] S._law_names)) (kp__law_take : FnG P w K mg base 1 T.f__law_take.f T.f__law_take.fd ["pot", "upto"] (spL K [.io, .fz] S._law_take))  {W : WX} {f : Addr} {cdv : Value} {A : Around} {outer : List Env} {s : Shared} {H : Hp} {E : XK} (hr : Room 5 (A.deeper (envOfC "_law_house" (defScope s__law_house) s.heap.objs.size f cdv)))
    (hF : FmP (cxOf (L2.CX P w) P w K mg base ["pot", "many", "rooms", "way", "pairs", "at", "other", "toss", "found", "pair"] "_law_house" (defScope s__law_house) f cdv A outer s H E) K W w) : RSs (fmOf _ K W w hF) (defBody s__law_house) (w__law_house S T.C) := by
  unfold w__law_house
  exact (rss_cons (rs_parC (is := [2, 3, 4]) (rhs_cons (re_call (fun _ => ⟨kp__law_names, hr.mono (by decide)⟩) (fun _ => T.f__law_names.m) T.f__law_names.k T.b__law_names_2 (ras_s 0 (ras_v (re_n 1) ras_nil))) (rhs_cons (re_call (fun _ => ⟨kp__law_take, hr.mono (by decide)⟩) (fun _ => T.f__law_take.m) T.f__law_take.k T.b__law_take_2 (ras_s 0 (ras_v re_int ras_nil))) (rhs_cons (re_lst rvs_nil) rhs_nil))) (fun i => (pgs_cons (pg_name (i := 2) (hF.nd) rfl (by first | exact Or.inl rfl | exact Or.inr rfl)) (pgs_cons (pg_name (i := 3) (hF.nd) rfl (by first | exact Or.inl rfl | exact Or.inr rfl)) (pgs_cons (pg_name (i := 4) (hF.nd) rfl (by first | exact Or.inl rfl | exact Or.inr rfl)) pgs_nil)))))
  (rss_cons (rs_for (vs := [5]) (ri_rng2 (rr_e re_int) (rr_n 1) (fun _ => T.n_range)) (rg_n 5 (by decide)) (rss_cons (rs_if (rw_t (rw_and (rt_cmp od_eq (rr_n 3) (rr_e re_int)) (rw_and1 (rt_cmp od_gt (rr_e (re_call (fun _ => ⟨kp__law_take, hr.mono (by decide)⟩) (fun _ => T.f__law_take.m) T.f__law_take.k T.b__law_take_2 (ras_s 0 (ras_v re_int ras_nil)))) (rr_e re_int))))) (rss_one (rs_drop (re_append 4 (rvs_cons (re_tup (rvs_cons (re_ty cd_int (fun _ => T.n_int) (rrs_cons (rr_e (re_call (fun _ => ⟨kp__law_take, hr.mono (by decide)⟩) (fun _ => T.f__law_take.m) T.f__law_take.k T.b__law_take_2 (ras_s 0 (ras_v (re_n 5) ras_nil)))) rrs_nil)) (rvs_cons (re_n 5) rvs_nil))) rvs_nil)))) rss_nil)
  (rss_one (rs_for (vs := [6]) (ri_rng1 (rr_n 5) (fun _ => T.n_range)) (rg_n 6 (by decide)) (rss_cons (rs_set 7 (re_call (fun _ => ⟨kp__law_take, hr.mono (by decide)⟩) (fun _ => T.f__law_take.m) T.f__law_take.k T.b__law_take_2 (ras_s 0 (ras_v re_int ras_nil))))
  (rss_one (rs_if (rw_t (rw_or (rw_t (rw_and (rt_cmp od_eq (rr_n 3) (rr_e re_int)) (rw_and1 (rt_cmp od_eq (rr_n 7) (rr_e re_int))))) (rw_or (rw_t (rw_and (rt_cmp od_eq (rr_n 3) (rr_e re_int)) (rw_and1 (rt_cmp od_lt (rr_n 7) (rr_e re_int))))) (rw_or1 (rw_t (rw_and (rt_cmp od_eq (rr_n 3) (rr_e re_int)) (rw_and1 (rt_cmp od_lt (rr_n 7) (rr_e re_int))))))))) (rss_one (rs_drop (re_append 4 (rvs_cons (re_tup (rvs_cons (re_n 6) (rvs_cons (re_n 5) rvs_nil))) rvs_nil)))) (rss_one (rs_if (rw_t (rw_and (rt_cmp od_eq (rr_n 3) (rr_e re_int)) (rw_and1 (rw_t (rw_or (rt_cmp od_eq (rr_n 6) (rr_e (re_op od_sub (rr_n 5) (rr_e re_int)))) (rw_or1 (rw_t (rw_and (rt_cmp od_eq (rr_n 7) (rr_e re_int)) (rw_and1 (rt_cmp od_eq (rr_e (re_op od_mod (rr_n 6) (rr_e re_int))) (rr_e re_int))))))))))) (rss_one (rs_drop (re_append 4 (rvs_cons (re_tup (rvs_cons (re_n 6) (rvs_cons (re_n 5) rvs_nil))) rvs_nil)))) (rss_one (rs_if (rw_t (rw_and (rt_cmp od_eq (rr_n 3) (rr_e re_int)) (rw_and (rt_cmp od_lt (rr_n 7) (rr_e re_int)) (rw_and1 (rt_cmp od_eq (rr_e (re_cmp od_lt (rr_n 6) (rr_e (re_op od_fdiv (rr_n 1) (rr_e re_int))))) (rr_e (re_cmp od_lt (rr_n 5) (rr_e (re_op od_fdiv (rr_n 1) (rr_e re_int)))))))))) (rss_one (rs_drop (re_append 4 (rvs_cons (re_tup (rvs_cons (re_n 6) (rvs_cons (re_n 5) rvs_nil))) rvs_nil)))) rss_nil)))))))))))
  (rss_cons (rs_set 4 (re_sl (rr_n 4) ro_n (ro_s (rr_e re_int))))
  (rss_cons (rs_lc 8 (ri_en (re_n 4) (fun _ => T.n_enumerate)) (own := [("at", 5), ("pair", 9)]) (fun _ => blkOk_by (N := ["pot", "many", "rooms", "way", "pairs", "at", "other", "toss", "found", "pair"]) (sc := defScope s__law_house) (by decide +kernel)) (rg_tn (rgs_cons (rg_n 5 (by decide)) (rgs_cons (rg_n 9 (by decide)) rgs_nil))) (rts_one (rt_cmp od_notIn (rr_n 9) (rr_e (re_sl (rr_n 4) ro_n (ro_s (rr_n 5)))))) (re_n 9) (fun _ => sw_true rfl rfl rfl (by decide +kernel)))
  (rss_one (rs_ret (re_dic (rps_cons re_str (re_n 2) (rps_cons re_str (re_b cd_sorted (fun _ => T.n_sorted) (rrs_cons (rr_n 8) rrs_nil)) rps_nil)))))))))
theorem g__law_house (T : Txt K mg) (S : Sps) (kp__law_names : FnG P w K mg base 5 T.f__law_names.f T.f__law_names.fd ["pot", "many"] (spL K [.io, .fz] S._law_names)) (kp__law_take : FnG P w K mg base 1 T.f__law_take.f T.f__law_take.fd ["pot", "upto"] (spL K [.io, .fz] S._law_take))  (keep : keeps [.io, .fz] 10 S._law_house (w__law_house S T.C)) : FnG P w K mg base 6 T.f__law_house.f T.f__law_house.fd ["pot", "many"] (spL K [.io, .fz] S._law_house) :=
  FnG.pu T.f__law_house.T sc__law_house rfl (by decide) (fun W cdv A outer s H E hF hr => d__law_house T S kp__law_names kp__law_take  hr hF) keep
theorem sc__law_text : FnScope ["own", "lines", "room", "one", "other"] ["own"] (defScope s__law_text) := ⟨rfl, rfl, rfl, by decide +kernel, rfl, by decide +kernel, by decide +kernel⟩
theorem d__law_text (T : Txt K mg) (S : Sps)   {W : WX} {f : Addr} {cdv : Value} {A : Around} {outer : List Env} {s : Shared} {H : Hp} {E : XK} (hr : Room 3 (A.deeper (envOfC "_law_text" (defScope s__law_text) s.heap.objs.size f cdv)))
    (hF : FmP (cxOf (L2.CX P w) P w K mg base ["own", "lines", "room", "one", "other"] "_law_text" (defScope s__law_text) f cdv A outer s H E) K W w) : RSs (fmOf _ K W w hF) (defBody s__law_text) (w__law_text S T.C) := by
  unfold w__law_text
  exact (rss_cons (rs_lc 1 (ri_sq (re_ix (rr_n 0) (rr_e re_str))) (own := [("room", 2)]) (fun _ => blkOk_by (N := ["own", "lines", "room", "one", "other"]) (sc := defScope s__law_text) (by decide +kernel)) (rg_n 2 (by decide)) rts_nil (re_op od_add (rr_e re_str) (rr_n 2)) (fun _ => sw_true rfl rfl rfl (by decide +kernel)))
  (rss_one (rs_ret (re_join (rr_e re_str) (rrs_cons (rr_e (re_op od_add (rr_n 1) (rr_e (re_lc (ri_sq (re_ix (rr_n 0) (rr_e re_str))) (own := [("one", 3), ("other", 4)]) (fun _ => blkOk_by (N := ["own", "lines", "room", "one", "other"]) (sc := defScope s__law_text) (by decide +kernel)) (rg_tn (rgs_cons (rg_n 3 (by decide)) (rgs_cons (rg_n 4 (by decide)) rgs_nil))) rts_nil (re_op od_add (rr_e (re_op od_add (rr_e (re_op od_add (rr_e re_str) (rr_e (re_ix (rr_e (re_ix (rr_n 0) (rr_e re_str))) (rr_n 3))))) (rr_e re_str))) (rr_e (re_ix (rr_e (re_ix (rr_n 0) (rr_e re_str))) (rr_n 4)))))))) rrs_nil)))))
theorem g__law_text (T : Txt K mg) (S : Sps)   (keep : keeps [.fz] 5 S._law_text (w__law_text S T.C)) : FnG P w K mg base 4 T.f__law_text.f T.f__law_text.fd ["own"] (spL K [.fz] S._law_text) :=
  FnG.pu T.f__law_text.T sc__law_text rfl (by decide) (fun W cdv A outer s H E hF hr => d__law_text T S   hr hF) keep
theorem sc__law_near : FnScope ["own", "found", "one", "other", "room"] ["own"] (defScope s__law_near) := ⟨rfl, rfl, rfl, by decide +kernel, rfl, by decide +kernel, by decide +kernel⟩
theorem d__law_near (T : Txt K mg) (S : Sps)   {W : WX} {f : Addr} {cdv : Value} {A : Around} {outer : List Env} {s : Shared} {H : Hp} {E : XK} (hr : Room 3 (A.deeper (envOfC "_law_near" (defScope s__law_near) s.heap.objs.size f cdv)))
    (hF : FmP (cxOf (L2.CX P w) P w K mg base ["own", "found", "one", "other", "room"] "_law_near" (defScope s__law_near) f cdv A outer s H E) K W w) : RSs (fmOf _ K W w hF) (defBody s__law_near) (w__law_near S T.C) := by
  unfold w__law_near
  exact (rss_cons (rs_lcO 1 (ri_sq (re_ix (rr_n 0) (rr_e re_str))) (own := [("room", 4)]) (fun _ => blkOk_by (N := ["own", "found", "one", "other", "room"]) (sc := defScope s__law_near) (by decide +kernel)) (rg_n 4 (by decide)) rts_nil (re_lst rvs_nil) (fun _ => sw_true rfl rfl rfl (by decide +kernel)))
  (rss_cons (rs_for (vs := [2, 3]) (ri_sq (re_ix (rr_n 0) (rr_e re_str))) (rg_tn (rgs_cons (rg_n 2 (by decide)) (rgs_cons (rg_n 3 (by decide)) rgs_nil))) (rss_cons (rs_drop (re_mutAt 1 mu_append (rr_n 2) (rvs_cons (re_n 3) rvs_nil) PySem.F.plainAttrs_list PySem.F.slot_list_append PySem.F.type_list_append))
  (rss_one (rs_drop (re_mutAt 1 mu_append (rr_n 3) (rvs_cons (re_n 2) rvs_nil) PySem.F.plainAttrs_list PySem.F.slot_list_append PySem.F.type_list_append)))))
  (rss_one (rs_ret (re_n 1)))))
theorem g__law_near (T : Txt K mg) (S : Sps)   (keep : keeps [.fz] 5 S._law_near (w__law_near S T.C)) : FnG P w K mg base 4 T.f__law_near.f T.f__law_near.fd ["own"] (spL K [.fz] S._law_near) :=
  FnG.pu T.f__law_near.T sc__law_near rfl (by decide) (fun W cdv A outer s H E hF hr => d__law_near T S   hr hF) keep
theorem sc__law_lot : FnScope ["own", "numbers", "at", "room"] ["own", "numbers"] (defScope s__law_lot) := ⟨rfl, rfl, rfl, by decide +kernel, rfl, by decide +kernel, by decide +kernel⟩
theorem d__law_lot (T : Txt K mg) (S : Sps)   {W : WX} {f : Addr} {cdv : Value} {A : Around} {outer : List Env} {s : Shared} {H : Hp} {E : XK} (hr : Room 0 (A.deeper (envOfC "_law_lot" (defScope s__law_lot) s.heap.objs.size f cdv)))
    (hF : FmP (cxOf (L2.CX P w) P w K mg base ["own", "numbers", "at", "room"] "_law_lot" (defScope s__law_lot) f cdv A outer s H E) K W w) : RSs (fmOf _ K W w hF) (defBody s__law_lot) (w__law_lot S T.C) := by
  unfold w__law_lot
  exact (rss_one (rs_ret (re_ty cd_tuple (fun _ => T.n_tuple) (rrs_cons (rr_e (re_lc (ri_en (re_ix (rr_n 0) (rr_e re_str)) (fun _ => T.n_enumerate)) (own := [("at", 2), ("room", 3)]) (fun _ => blkOk_by (N := ["own", "numbers", "at", "room"]) (sc := defScope s__law_lot) (by decide +kernel)) (rg_tn (rgs_cons (rg_n 2 (by decide)) (rgs_cons (rg_n 3 (by decide)) rgs_nil))) (rts_one (rt_cmp od_in (rr_n 2) (rr_n 1))) (re_n 3))) rrs_nil))))
theorem g__law_lot (T : Txt K mg) (S : Sps)   (keep : keeps [.fz, .fz] 4 S._law_lot (w__law_lot S T.C)) : FnG P w K mg base 1 T.f__law_lot.f T.f__law_lot.fd ["own", "numbers"] (spL K [.fz, .fz] S._law_lot) :=
  FnG.pu T.f__law_lot.T sc__law_lot rfl (by decide) (fun W cdv A outer s H E hF hr => d__law_lot T S   hr hF) keep
theorem sc__law_come : FnScope ["near", "numbers", "found", "at"] ["near", "numbers"] (defScope s__law_come) := ⟨rfl, rfl, rfl, by decide +kernel, rfl, by decide +kernel, by decide +kernel⟩
theorem d__law_come (T : Txt K mg) (S : Sps)   {W : WX} {f : Addr} {cdv : Value} {A : Around} {outer : List Env} {s : Shared} {H : Hp} {E : XK} (hr : Room 3 (A.deeper (envOfC "_law_come" (defScope s__law_come) s.heap.objs.size f cdv)))
    (hF : FmP (cxOf (L2.CX P w) P w K mg base ["near", "numbers", "found", "at"] "_law_come" (defScope s__law_come) f cdv A outer s H E) K W w) : RSs (fmOf _ K W w hF) (defBody s__law_come) (w__law_come S T.C) := by
  unfold w__law_come
  exact (rss_cons (rs_set 2 (re_lst rvs_nil))
  (rss_cons (rs_for (vs := [3]) (ri_sq (re_n 1)) (rg_n 3 (by decide)) (rss_one (rs_drop (re_extend 2 (rvs_cons (re_if (rt_cmp od_ne (rr_e (re_ix (rr_n 0) (rr_n 3))) (rr_e (re_lst rvs_nil))) (re_ix (rr_n 0) (rr_n 3)) (re_lst (rvs_cons (re_n 3) rvs_nil))) rvs_nil)))))
  (rss_one (rs_ret (re_sortedSet (fun _ => T.n_sorted) (fun _ => T.n_set) (rrs_cons (rr_n 2) rrs_nil))))))
theorem g__law_come (T : Txt K mg) (S : Sps)   (keep : keeps [.fz, .fz] 4 S._law_come (w__law_come S T.C)) : FnG P w K mg base 4 T.f__law_come.f T.f__law_come.fd ["near", "numbers"] (spL K [.fz, .fz] S._law_come) :=
  FnG.pu T.f__law_come.T sc__law_come rfl (by decide) (fun W cdv A outer s H E hF hr => d__law_come T S   hr hF) keep
theorem sc__law_may_be : FnScope ["own", "lots", "near", "there", "found", "lot", "at"] ["own", "lots"] (defScope s__law_may_be) := ⟨rfl, rfl, rfl, by decide +kernel, rfl, by decide +kernel, by decide +kernel⟩
theorem d__law_may_be (T : Txt K mg) (S : Sps) (kp__law_near : FnG P w K mg base 4 T.f__law_near.f T.f__law_near.fd ["own"] (spL K [.fz] S._law_near)) (kp__law_lot : FnG P w K mg base 1 T.f__law_lot.f T.f__law_lot.fd ["own", "numbers"] (spL K [.fz, .fz] S._law_lot)) (kp__law_come : FnG P w K mg base 4 T.f__law_come.f T.f__law_come.fd ["near", "numbers"] (spL K [.fz, .fz] S._law_come))  {W : WX} {f : Addr} {cdv : Value} {A : Around} {outer : List Env} {s : Shared} {H : Hp} {E : XK} (hr : Room 4 (A.deeper (envOfC "_law_may_be" (defScope s__law_may_be) s.heap.objs.size f cdv)))
    (hF : FmP (cxOf (L2.CX P w) P w K mg base ["own", "lots", "near", "there", "found", "lot", "at"] "_law_may_be" (defScope s__law_may_be) f cdv A outer s H E) K W w) : RSs (fmOf _ K W w hF) (defBody s__law_may_be) (w__law_may_be S T.C) := by
  unfold w__law_may_be
  exact (rss_cons (rs_par3 (rhs_cons (re_call (fun _ => ⟨kp__law_near, hr.mono (by decide)⟩) (fun _ => T.f__law_near.m) T.f__law_near.k T.b__law_near_1 (ras_v (re_n 0) ras_nil)) (rhs_cons (re_lrg1 (rr_e (re_b cd_len (fun _ => T.n_len) (rrs_cons (rr_e (re_ix (rr_n 0) (rr_e re_str))) rrs_nil))) (fun _ => T.n_list) (fun _ => T.n_range)) (rhs_cons (re_lst rvs_nil) rhs_nil))))
  (rss_cons (rs_for (vs := [5]) (ri_sq (re_n 1)) (rg_n 5 (by decide)) (rss_cons (rs_lc 3 (ri_sq (re_n 3)) (own := [("at", 6)]) (fun _ => blkOk_by (N := ["own", "lots", "near", "there", "found", "lot", "at"]) (sc := defScope s__law_may_be) (by decide +kernel)) (rg_n 6 (by decide)) (rts_one (rt_cmp od_notIn (rr_e (re_ix (rr_e (re_ix (rr_n 0) (rr_e re_str))) (rr_n 6))) (rr_n 5))) (re_n 6) (fun _ => sw_true rfl rfl rfl (by decide +kernel)))
  (rss_cons (rs_drop (re_append 4 (rvs_cons (re_call (fun _ => ⟨kp__law_lot, hr.mono (by decide)⟩) (fun _ => T.f__law_lot.m) T.f__law_lot.k T.b__law_lot_2 (ras_v (re_n 0) (ras_v (re_n 3) ras_nil))) rvs_nil)))
  (rss_one (rs_set 3 (re_call (fun _ => ⟨kp__law_come, hr.mono (by decide)⟩) (fun _ => T.f__law_come.m) T.f__law_come.k T.b__law_come_2 (ras_v (re_n 2) (ras_v (re_n 3) ras_nil))))))))
  (rss_one (rs_ret (re_ty cd_tuple (fun _ => T.n_tuple) (rrs_cons (rr_n 4) rrs_nil))))))
theorem g__law_may_be (T : Txt K mg) (S : Sps) (kp__law_near : FnG P w K mg base 4 T.f__law_near.f T.f__law_near.fd ["own"] (spL K [.fz] S._law_near)) (kp__law_lot : FnG P w K mg base 1 T.f__law_lot.f T.f__law_lot.fd ["own", "numbers"] (spL K [.fz, .fz] S._law_lot)) (kp__law_come : FnG P w K mg base 4 T.f__law_come.f T.f__law_come.fd ["near", "numbers"] (spL K [.fz, .fz] S._law_come))  (keep : keeps [.fz, .fz] 7 S._law_may_be (w__law_may_be S T.C)) : FnG P w K mg base 5 T.f__law_may_be.f T.f__law_may_be.fd ["own", "lots"] (spL K [.fz, .fz] S._law_may_be) :=
  FnG.pu T.f__law_may_be.T sc__law_may_be rfl (by decide) (fun W cdv A outer s H E hF hr => d__law_may_be T S kp__law_near kp__law_lot kp__law_come  hr hF) keep
theorem sc__law_goes : FnScope ["own", "lots", "start", "near", "there", "found", "lot", "at"] ["own", "lots", "start"] (defScope s__law_goes) := ⟨rfl, rfl, rfl, by decide +kernel, rfl, by decide +kernel, by decide +kernel⟩
theorem d__law_goes (T : Txt K mg) (S : Sps) (kp__law_near : FnG P w K mg base 4 T.f__law_near.f T.f__law_near.fd ["own"] (spL K [.fz] S._law_near)) (kp__law_come : FnG P w K mg base 4 T.f__law_come.f T.f__law_come.fd ["near", "numbers"] (spL K [.fz, .fz] S._law_come))  {W : WX} {f : Addr} {cdv : Value} {A : Around} {outer : List Env} {s : Shared} {H : Hp} {E : XK} (hr : Room 4 (A.deeper (envOfC "_law_goes" (defScope s__law_goes) s.heap.objs.size f cdv)))
    (hF : FmP (cxOf (L2.CX P w) P w K mg base ["own", "lots", "start", "near", "there", "found", "lot", "at"] "_law_goes" (defScope s__law_goes) f cdv A outer s H E) K W w) : RSs (fmOf _ K W w hF) (defBody s__law_goes) (w__law_goes S T.C) := by
  unfold w__law_goes
  exact (rss_cons (rs_par3 (rhs_cons (re_call (fun _ => ⟨kp__law_near, hr.mono (by decide)⟩) (fun _ => T.f__law_near.m) T.f__law_near.k T.b__law_near_1 (ras_v (re_n 0) ras_nil)) (rhs_cons (re_lst (rvs_cons (re_n 2) rvs_nil)) (rhs_cons (re_lst rvs_nil) rhs_nil))))
  (rss_cons (rs_for (vs := [6]) (ri_sq (re_n 1)) (rg_n 6 (by decide)) (rss_cons (rs_lc 4 (ri_sq (re_n 4)) (own := [("at", 7)]) (fun _ => blkOk_by (N := ["own", "lots", "start", "near", "there", "found", "lot", "at"]) (sc := defScope s__law_goes) (by decide +kernel)) (rg_n 7 (by decide)) (rts_one (rt_cmp od_notIn (rr_e (re_ix (rr_e (re_ix (rr_n 0) (rr_e re_str))) (rr_n 7))) (rr_n 6))) (re_n 7) (fun _ => sw_true rfl rfl rfl (by decide +kernel)))
  (rss_cons (rs_drop (re_append 5 (rvs_cons (re_n 4) rvs_nil)))
  (rss_one (rs_set 4 (re_call (fun _ => ⟨kp__law_come, hr.mono (by decide)⟩) (fun _ => T.f__law_come.m) T.f__law_come.k T.b__law_come_2 (ras_v (re_n 3) (ras_v (re_n 4) ras_nil))))))))
  (rss_one (rs_ret (re_n 5)))))
theorem g__law_goes (T : Txt K mg) (S : Sps) (kp__law_near : FnG P w K mg base 4 T.f__law_near.f T.f__law_near.fd ["own"] (spL K [.fz] S._law_near)) (kp__law_come : FnG P w K mg base 4 T.f__law_come.f T.f__law_come.fd ["near", "numbers"] (spL K [.fz, .fz] S._law_come))  (keep : keeps [.fz, .fz, .fz] 8 S._law_goes (w__law_goes S T.C)) : FnG P w K mg base 5 T.f__law_goes.f T.f__law_goes.fd ["own", "lots", "start"] (spL K [.fz, .fz, .fz] S._law_goes) :=
  FnG.pu T.f__law_goes.T sc__law_goes rfl (by decide) (fun W cdv A outer s H E hF hr => d__law_goes T S kp__law_near kp__law_come  hr hF) keep
theorem sc__law_right : FnScope ["pot", "own", "house", "lots", "lap", "some", "told", "due", "rows", "at", "whole", "led", "order", "doors", "one", "other", "again", "its", "lot", "room", "start", "to", "row"] ["pot"] (defScope s__law_right) := ⟨rfl, rfl, rfl, by decide +kernel, rfl, by decide +kernel, by decide +kernel⟩
theorem d__law_right (T : Txt K mg) (S : Sps) (kp__law_house : FnG P w K mg base 6 T.f__law_house.f T.f__law_house.fd ["pot", "many"] (spL K [.io, .fz] S._law_house)) (kp__law_take : FnG P w K mg base 1 T.f__law_take.f T.f__law_take.fd ["pot", "upto"] (spL K [.io, .fz] S._law_take)) (kp__law_text : FnG P w K mg base 4 T.f__law_text.f T.f__law_text.fd ["own"] (spL K [.fz] S._law_text)) (kp__law_some : FnG P w K mg base 4 T.f__law_some.f T.f__law_some.fd ["pot", "pool", "amount"] (spL K [.io, .fz, .fz] S._law_some)) (kp_may_lurk : FnG P w K mg base 9 T.f_may_lurk.f T.f_may_lurk.fd ["house", "lots"] (spL K [.fz, .fz] S.may_lurk)) (kp__law_may_be : FnG P w K mg base 5 T.f__law_may_be.f T.f__law_may_be.fd ["own", "lots"] (spL K [.fz, .fz] S._law_may_be)) (kp_caught : FnG P w K mg base 9 T.f_caught.f T.f_caught.fd ["house", "lots"] (spL K [.fz, .fz] S.caught)) (kp__law_goes : FnG P w K mg base 5 T.f__law_goes.f T.f__law_goes.fd ["own", "lots", "start"] (spL K [.fz, .fz, .fz] S._law_goes)) (kp__law_lot : FnG P w K mg base 1 T.f__law_lot.f T.f__law_lot.fd ["own", "numbers"] (spL K [.fz, .fz] S._law_lot)) (hH : HouseOk K mg S.House) {W : WX} {f : Addr} {cdv : Value} {A : Around} {outer : List Env} {s : Shared} {H : Hp} {E : XK} (hr : Room 9 (A.deeper (envOfC "_law_right" (defScope s__law_right) s.heap.objs.size f cdv)))
    (hF : FmP (cxOf (L2.CX P w) P w K mg base ["pot", "own", "house", "lots", "lap", "some", "told", "due", "rows", "at", "whole", "led", "order", "doors", "one", "other", "again", "its", "lot", "room", "start", "to", "row"] "_law_right" (defScope s__law_right) f cdv A outer s H E) K W w) : RSs (fmOf _ K W w hF) (defBody s__law_right) (w__law_right S T.C) := by
  unfold w__law_right
  exact (rss_cons (rs_set 1 (re_call (fun _ => ⟨kp__law_house, hr.mono (by decide)⟩) (fun _ => T.f__law_house.m) T.f__law_house.k T.b__law_house_2 (ras_s 0 (ras_v (re_op od_add (rr_e re_int) (rr_e (re_call (fun _ => ⟨kp__law_take, hr.mono (by decide)⟩) (fun _ => T.f__law_take.m) T.f__law_take.k T.b__law_take_2 (ras_s 0 (ras_v re_int ras_nil))))) ras_nil))))
  (rss_cons (rs_parC (is := [2, 3]) (rhs_cons (hH _ rfl (fun _ => rfl) (fun _ => hr.mono (by decide)) (re_call (fun _ => ⟨kp__law_text, hr.mono (by decide)⟩) (fun _ => T.f__law_text.m) T.f__law_text.k T.b__law_text_1 (ras_v (re_n 1) ras_nil)) (by intro _; rfl) (by intro _; rfl) (by intro _; rfl)) (rhs_cons (re_lst rvs_nil) rhs_nil)) (fun i => (pgs_cons (pg_name (i := 2) (hF.nd) rfl (by first | exact Or.inl rfl | exact Or.inr rfl)) (pgs_cons (pg_name (i := 3) (hF.nd) rfl (by first | exact Or.inl rfl | exact Or.inr rfl)) pgs_nil))))
  (rss_cons (rs_for (vs := [4]) (ri_rng1 (rr_e (re_op od_add (rr_e re_int) (rr_e (re_call (fun _ => ⟨kp__law_take, hr.mono (by decide)⟩) (fun _ => T.f__law_take.m) T.f__law_take.k T.b__law_take_2 (ras_s 0 (ras_v re_int ras_nil)))))) (fun _ => T.n_range)) (rg_n 4 (by decide)) (rss_cons (rs_set 5 (re_call (fun _ => ⟨kp__law_some, hr.mono (by decide)⟩) (fun _ => T.f__law_some.m) T.f__law_some.k T.b__law_some_3 (ras_s 0 (ras_v (re_ix (rr_n 1) (rr_e re_str)) (ras_v (re_call (fun _ => ⟨kp__law_take, hr.mono (by decide)⟩) (fun _ => T.f__law_take.m) T.f__law_take.k T.b__law_take_2 (ras_s 0 (ras_v (re_op od_add (rr_e (re_b cd_len (fun _ => T.n_len) (rrs_cons (rr_e (re_ix (rr_n 1) (rr_e re_str))) rrs_nil))) (rr_e re_int)) ras_nil))) ras_nil)))))
  (rss_one (rs_drop (re_append 3 (rvs_cons (re_ty cd_tuple (fun _ => T.n_tuple) (rrs_cons (rr_e (re_lc (ri_sq (re_ix (rr_n 1) (rr_e re_str))) (own := [("room", 19)]) (fun _ => blkOk_by (N := ["pot", "own", "house", "lots", "lap", "some", "told", "due", "rows", "at", "whole", "led", "order", "doors", "one", "other", "again", "its", "lot", "room", "start", "to", "row"]) (sc := defScope s__law_right) (by decide +kernel)) (rg_n 19 (by decide)) (rts_one (rt_cmp od_in (rr_n 19) (rr_n 5))) (re_n 19))) rrs_nil)) rvs_nil))))))
  (rss_cons (rs_par (rhs_cons (re_callK0 (fun _ => ⟨kp_may_lurk, hr.mono (by decide)⟩) (fun _ => T.f_may_lurk.m) T.f_may_lurk.k T.b_may_lurk_0_k2 (rks_v (re_n 2) (rks_v (re_ty cd_tuple (fun _ => T.n_tuple) (rrs_cons (rr_n 3) rrs_nil)) rks_nil))) (rhs_cons (re_call (fun _ => ⟨kp__law_may_be, hr.mono (by decide)⟩) (fun _ => T.f__law_may_be.m) T.f__law_may_be.k T.b__law_may_be_2 (ras_v (re_n 1) (ras_v (re_n 3) ras_nil))) rhs_nil)))
  (rss_cons (rs_if (rw_t (rw_or (rt_cmp od_ne (rr_e (re_b cd_repr (fun _ => T.n_repr) (rrs_cons (rr_n 6) rrs_nil))) (rr_e (re_b cd_repr (fun _ => T.n_repr) (rrs_cons (rr_n 7) rrs_nil)))) (rw_or1 (rt_cmp od_ne (rr_e (re_b cd_repr (fun _ => T.n_repr) (rrs_cons (rr_e (re_callK0 (fun _ => ⟨kp_caught, hr.mono (by decide)⟩) (fun _ => T.f_caught.m) T.f_caught.k T.b_caught_0_k2 (rks_v (re_n 2) (rks_v (re_ty cd_tuple (fun _ => T.n_tuple) (rrs_cons (rr_n 3) rrs_nil)) rks_nil)))) rrs_nil))) (rr_e (re_b cd_repr (fun _ => T.n_repr) (rrs_cons (rr_e (re_cmp od_in (rr_e (re_tup rvs_nil)) (rr_n 7))) rrs_nil))))))) (rss_one (rs_ret re_bl)) rss_nil)
  (rss_cons (rs_set 8 (re_lc (ri_rng1 (rr_e (re_b cd_len (fun _ => T.n_len) (rrs_cons (rr_e (re_ix (rr_n 1) (rr_e re_str))) rrs_nil))) (fun _ => T.n_range)) (own := [("start", 20)]) (fun _ => blkOk_by (N := ["pot", "own", "house", "lots", "lap", "some", "told", "due", "rows", "at", "whole", "led", "order", "doors", "one", "other", "again", "its", "lot", "room", "start", "to", "row"]) (sc := defScope s__law_right) (by decide +kernel)) (rg_n 20 (by decide)) rts_nil (re_call (fun _ => ⟨kp__law_goes, hr.mono (by decide)⟩) (fun _ => T.f__law_goes.m) T.f__law_goes.k T.b__law_goes_3 (ras_v (re_n 1) (ras_v (re_n 3) (ras_v (re_n 20) ras_nil))))))
  (rss_cons (rs_for (vs := [9]) (ri_rng1 (rr_e (re_b cd_len (fun _ => T.n_len) (rrs_cons (rr_n 3) rrs_nil))) (fun _ => T.n_range)) (rg_n 9 (by decide)) (rss_cons (rs_lc 10 (ri_rng1 (rr_e (re_b cd_len (fun _ => T.n_len) (rrs_cons (rr_e (re_ix (rr_n 1) (rr_e re_str))) rrs_nil))) (fun _ => T.n_range)) (own := [("to", 21)]) (fun _ => blkOk_by (N := ["pot", "own", "house", "lots", "lap", "some", "told", "due", "rows", "at", "whole", "led", "order", "doors", "one", "other", "again", "its", "lot", "room", "start", "to", "row"]) (sc := defScope s__law_right) (by decide +kernel)) (rg_n 21 (by decide)) (rts_one (rt_v (re_b cd_any (fun _ => T.n_any) (rrs_cons (rr_e (re_lc (ri_sq (re_n 8)) (own := [("row", 22)]) (fun _ => blkOk_by (by rfl)) (rg_n 22 (by decide)) rts_nil (re_cmp od_in (rr_n 21) (rr_e (re_ix (rr_n 22) (rr_n 9)))))) rrs_nil)))) (re_n 21) (fun _ => sw_true rfl rfl rfl (by decide +kernel)))
  (rss_one (rs_if (rt_cmp od_ne (rr_e (re_ix (rr_n 6) (rr_n 9))) (rr_e (re_call (fun _ => ⟨kp__law_lot, hr.mono (by decide)⟩) (fun _ => T.f__law_lot.m) T.f__law_lot.k T.b__law_lot_2 (ras_v (re_n 1) (ras_v (re_n 10) ras_nil))))) (rss_one (rs_ret re_bl)) rss_nil))))
  (rss_cons (rs_set 11 (re_dictZip (fun _ => T.n_dict) (fun _ => T.n_zip) (rrs_cons (rr_e (re_ix (rr_n 1) (rr_e re_str))) (rrs_cons (rr_e (re_call (fun _ => ⟨kp__law_some, hr.mono (by decide)⟩) (fun _ => T.f__law_some.m) T.f__law_some.k T.b__law_some_3 (ras_s 0 (ras_v (re_lc (ri_rng1 (rr_e re_int) (fun _ => T.n_range)) (own := [("at", 9)]) (fun _ => blkOk_by (N := ["pot", "own", "house", "lots", "lap", "some", "told", "due", "rows", "at", "whole", "led", "order", "doors", "one", "other", "again", "its", "lot", "room", "start", "to", "row"]) (sc := defScope s__law_right) (by decide +kernel)) (rg_n 9 (by decide)) rts_nil (re_op od_add (rr_e re_str) (rr_e (re_ty cd_str (fun _ => T.n_str) (rrs_cons (rr_n 9) rrs_nil))))) (ras_v (re_b cd_len (fun _ => T.n_len) (rrs_cons (rr_e (re_ix (rr_n 1) (rr_e re_str))) rrs_nil)) ras_nil))))) rrs_nil))))
  (rss_cons (rs_set 12 (re_call (fun _ => ⟨kp__law_some, hr.mono (by decide)⟩) (fun _ => T.f__law_some.m) T.f__law_some.k T.b__law_some_3 (ras_s 0 (ras_v (re_lc (ri_sq (re_ix (rr_n 1) (rr_e re_str))) (own := [("room", 19)]) (fun _ => blkOk_by (N := ["pot", "own", "house", "lots", "lap", "some", "told", "due", "rows", "at", "whole", "led", "order", "doors", "one", "other", "again", "its", "lot", "room", "start", "to", "row"]) (sc := defScope s__law_right) (by decide +kernel)) (rg_n 19 (by decide)) rts_nil (re_ix (rr_n 11) (rr_n 19))) (ras_v (re_b cd_len (fun _ => T.n_len) (rrs_cons (rr_e (re_ix (rr_n 1) (rr_e re_str))) rrs_nil)) ras_nil)))))
  (rss_cons (rs_set 13 (re_lst rvs_nil))
  (rss_cons (rs_for (vs := [14, 15]) (ri_sq (re_ix (rr_n 1) (rr_e re_str))) (rg_tn (rgs_cons (rg_n 14 (by decide)) (rgs_cons (rg_n 15 (by decide)) rgs_nil))) (rss_one (rs_drop (re_append 13 (rvs_cons (re_ty cd_tuple (fun _ => T.n_tuple) (rrs_cons (rr_e (re_b cd_sorted (fun _ => T.n_sorted) (rrs_cons (rr_e (re_lst (rvs_cons (re_index (rr_n 12) (rrs_cons (rr_e (re_ix (rr_n 11) (rr_e (re_ix (rr_e (re_ix (rr_n 1) (rr_e re_str))) (rr_n 14))))) rrs_nil)) (rvs_cons (re_index (rr_n 12) (rrs_cons (rr_e (re_ix (rr_n 11) (rr_e (re_ix (rr_e (re_ix (rr_n 1) (rr_e re_str))) (rr_n 15))))) rrs_nil)) rvs_nil)))) rrs_nil))) rrs_nil)) rvs_nil)))))
  (rss_cons (rs_par (rhs_cons (hH _ rfl (fun _ => rfl) (fun _ => hr.mono (by decide)) (re_call (fun _ => ⟨kp__law_text, hr.mono (by decide)⟩) (fun _ => T.f__law_text.m) T.f__law_text.k T.b__law_text_1 (ras_v (re_dic (rps_cons re_str (re_n 12) (rps_cons re_str (re_b cd_sorted (fun _ => T.n_sorted) (rrs_cons (rr_n 13) rrs_nil)) rps_nil))) ras_nil)) (by intro _; rfl) (by intro _; rfl) (by intro _; rfl)) (rhs_cons (re_lst rvs_nil) rhs_nil)))
  (rss_cons (rs_for (vs := [18]) (ri_sq (re_n 3)) (rg_n 18 (by decide)) (rss_one (rs_drop (re_append 17 (rvs_cons (re_ty cd_tuple (fun _ => T.n_tuple) (rrs_cons (rr_e (re_lc (ri_sq (re_n 12)) (own := [("room", 19)]) (fun _ => blkOk_by (N := ["pot", "own", "house", "lots", "lap", "some", "told", "due", "rows", "at", "whole", "led", "order", "doors", "one", "other", "again", "its", "lot", "room", "start", "to", "row"]) (sc := defScope s__law_right) (by decide +kernel)) (rg_n 19 (by decide)) (rts_one (rt_cmp od_in (rr_n 19) (rr_e (re_lc (ri_sq (re_n 18)) (own := [("one", 14)]) (fun _ => blkOk_by (by rfl)) (rg_n 14 (by decide)) rts_nil (re_ix (rr_n 11) (rr_n 14)))))) (re_n 19))) rrs_nil)) rvs_nil)))))
  (rss_one (rs_ret (re_cmp od_eq (rr_e (re_lc (ri_sq (re_call (fun _ => ⟨kp_may_lurk, hr.mono (by decide)⟩) (fun _ => T.f_may_lurk.m) T.f_may_lurk.k T.b_may_lurk_2 (ras_v (re_n 16) (ras_v (re_ty cd_tuple (fun _ => T.n_tuple) (rrs_cons (rr_n 17) rrs_nil)) ras_nil)))) (own := [("lot", 18)]) (fun _ => blkOk_by (N := ["pot", "own", "house", "lots", "lap", "some", "told", "due", "rows", "at", "whole", "led", "order", "doors", "one", "other", "again", "its", "lot", "room", "start", "to", "row"]) (sc := defScope s__law_right) (by decide +kernel)) (rg_n 18 (by decide)) rts_nil (re_b cd_sorted (fun _ => T.n_sorted) (rrs_cons (rr_n 18) rrs_nil)))) (rr_e (re_lc (ri_sq (re_n 6)) (own := [("lot", 18)]) (fun _ => blkOk_by (N := ["pot", "own", "house", "lots", "lap", "some", "told", "due", "rows", "at", "whole", "led", "order", "doors", "one", "other", "again", "its", "lot", "room", "start", "to", "row"]) (sc := defScope s__law_right) (by decide +kernel)) (rg_n 18 (by decide)) rts_nil (re_b cd_sorted (fun _ => T.n_sorted) (rrs_cons (rr_e (re_lc (ri_sq (re_n 18)) (own := [("room", 19)]) (fun _ => blkOk_by (by rfl)) (rg_n 19 (by decide)) rts_nil (re_ix (rr_n 11) (rr_n 19)))) rrs_nil))))))))))))))))))))
theorem g__law_right (T : Txt K mg) (S : Sps) (kp__law_house : FnG P w K mg base 6 T.f__law_house.f T.f__law_house.fd ["pot", "many"] (spL K [.io, .fz] S._law_house)) (kp__law_take : FnG P w K mg base 1 T.f__law_take.f T.f__law_take.fd ["pot", "upto"] (spL K [.io, .fz] S._law_take)) (kp__law_text : FnG P w K mg base 4 T.f__law_text.f T.f__law_text.fd ["own"] (spL K [.fz] S._law_text)) (kp__law_some : FnG P w K mg base 4 T.f__law_some.f T.f__law_some.fd ["pot", "pool", "amount"] (spL K [.io, .fz, .fz] S._law_some)) (kp_may_lurk : FnG P w K mg base 9 T.f_may_lurk.f T.f_may_lurk.fd ["house", "lots"] (spL K [.fz, .fz] S.may_lurk)) (kp__law_may_be : FnG P w K mg base 5 T.f__law_may_be.f T.f__law_may_be.fd ["own", "lots"] (spL K [.fz, .fz] S._law_may_be)) (kp_caught : FnG P w K mg base 9 T.f_caught.f T.f_caught.fd ["house", "lots"] (spL K [.fz, .fz] S.caught)) (kp__law_goes : FnG P w K mg base 5 T.f__law_goes.f T.f__law_goes.fd ["own", "lots", "start"] (spL K [.fz, .fz, .fz] S._law_goes)) (kp__law_lot : FnG P w K mg base 1 T.f__law_lot.f T.f__law_lot.fd ["own", "numbers"] (spL K [.fz, .fz] S._law_lot)) (hH : HouseOk K mg S.House) (keep : keeps [.io] 23 S._law_right (w__law_right S T.C)) : FnG P w K mg base 10 T.f__law_right.f T.f__law_right.fd ["pot"] (spL K [.io] S._law_right) :=
  FnG.pu T.f__law_right.T sc__law_right rfl (by decide) (fun W cdv A outer s H E hF hr => d__law_right T S kp__law_house kp__law_take kp__law_text kp__law_some kp_may_lurk kp__law_may_be kp_caught kp__law_goes kp__law_lot hH hr hF) keep
theorem sc_law : FnScope ["script", "place", "pot", "lap"] ["script"] (defScope s_law) := ⟨rfl, rfl, rfl, by decide +kernel, rfl, by decide +kernel, by decide +kernel⟩
theorem d_law (T : Txt K mg) (S : Sps) (kp__law_cells : FnG P w K mg base 1 T.f__law_cells.f T.f__law_cells.fd ["script", "limit"] (spL K [.fz, .fz] S._law_cells)) (kp__law_pot : FnG P w K mg base 1 T.f__law_pot.f T.f__law_pot.fd ["script", "place"] (spL K [.fz, .fz] S._law_pot)) (kp__law_right : FnG P w K mg base 10 T.f__law_right.f T.f__law_right.fd ["pot"] (spL K [.io] S._law_right))  {W : WX} {f : Addr} {cdv : Value} {A : Around} {outer : List Env} {s : Shared} {H : Hp} {E : XK} (hr : Room 10 (A.deeper (envOfC "law" (defScope s_law) s.heap.objs.size f cdv)))
    (hF : FmP (cxOf (L2.CX P w) P w K mg base ["script", "place", "pot", "lap"] "law" (defScope s_law) f cdv A outer s H E) K W w) : RSs (fmOf _ K W w hF) (defBody s_law) (w_law S T.C) := by
  unfold w_law
  exact (rss_cons (rs_for (vs := [1]) (ri_sq (re_call (fun _ => ⟨kp__law_cells, hr.mono (by decide)⟩) (fun _ => T.f__law_cells.m) T.f__law_cells.k T.b__law_cells_2 (ras_v (re_n 0) (ras_v re_int ras_nil)))) (rg_n 1 (by decide)) (rss_cons (rs_set 2 (re_call (fun _ => ⟨kp__law_pot, hr.mono (by decide)⟩) (fun _ => T.f__law_pot.m) T.f__law_pot.k T.b__law_pot_2 (ras_v (re_n 0) (ras_v (re_n 1) ras_nil))))
  (rss_one (rs_if (rt_not (rt_v (re_b cd_all (fun _ => T.n_all) (rrs_cons (rr_e (re_lc (ri_rng1 (rr_e re_int) (fun _ => T.n_range)) (own := [("lap", 3)]) (fun _ => blkOk_by (N := ["script", "place", "pot", "lap"]) (sc := defScope s_law) (by decide +kernel)) (rg_n 3 (by decide)) rts_nil (re_call (fun _ => ⟨kp__law_right, hr.mono (by decide)⟩) (fun _ => T.f__law_right.m) T.f__law_right.k T.b__law_right_1 (ras_s 2 ras_nil)))) rrs_nil)))) (rss_one (rs_ret re_bl)) rss_nil))))
  (rss_one (rs_ret re_bl)))
theorem g_law (T : Txt K mg) (S : Sps) (kp__law_cells : FnG P w K mg base 1 T.f__law_cells.f T.f__law_cells.fd ["script", "limit"] (spL K [.fz, .fz] S._law_cells)) (kp__law_pot : FnG P w K mg base 1 T.f__law_pot.f T.f__law_pot.fd ["script", "place"] (spL K [.fz, .fz] S._law_pot)) (kp__law_right : FnG P w K mg base 10 T.f__law_right.f T.f__law_right.fd ["pot"] (spL K [.io] S._law_right))  (keep : keeps [.fz] 4 S.law (w_law S T.C)) : FnG P w K mg base 11 T.f_law.f T.f_law.fd ["script"] (spL K [.fz] S.law) :=
  FnG.pu T.f_law.T sc_law rfl (by decide) (fun W cdv A outer s H E hF hr => d_law T S kp__law_cells kp__law_pot kp__law_right  hr hF) keep
end
end K36

set_option Elab.async false
set_option linter.all false
set_option maxRecDepth 100000
set_option maxHeartbeats 4000000
/-! K36: the reader and the house (printed by gen.py). -/
namespace K36
open PySem L2 PySem.Spec PyProof.Rows Pu
def w_takes (S : Sps) (CR : Nat) : WS :=
  (wSeq (wSet 2 (wMt "str" kSplit (rN 1) (rsC (rE (wC (.str " "))) rsN)))
  (wSeq (wIfS (tV (wOp kEq (rE (wOp kIx (rN 2) (rE (wC (.int 0))))) (rE (wC (.str "room"))))) wNever wPass)
  (wSeq (wIfS (tOr (tV (wOp kNe (rE (wOp kIx (rN 2) (rE (wC (.int 0))))) (rE (wC (.str "door"))))) (tOr (tV (wOp kNe (rE (wB kLen (rsC (rN 2) rsN))) (rE (wC (.int 3))))) (tV (wOp kEq (rE (wB kLen (rsC (rE (wProp CR "own_doors" (rN 0))) rsN))) (rE (wC (.int 60))))))) (wRet (wC (.bl false))) wPass)
  (wSeq (wAsg (gTn 2 (gsC (gN 3) (gsC (gN 4) gsN))) (wSl (rN 2) (oS (rE (wC (.int 1)))) oN))
  (wSeq (wIfS (tOr (tV (wOp kEq (rN 3) (rN 4))) (tOr (tV (wOp kNotIn (rN 3) (rE (wProp CR "own_rooms" (rN 0))))) (tV (wOp kNotIn (rN 4) (rE (wProp CR "own_rooms" (rN 0))))))) (wRet (wC (.bl false))) wPass)
  (wSeq (wIfS (tOr (tV (wOp kIn (rE (wTup (vsC (wN 3) (vsC (wN 4) vsN)))) (rE (wProp CR "own_doors" (rN 0))))) (tV (wOp kIn (rE (wTup (vsC (wN 4) (vsC (wN 3) vsN)))) (rE (wProp CR "own_doors" (rN 0)))))) (wRet (wC (.bl false))) wPass)
  wPass))))))
def w_takes0 (S : Sps) (CR : Nat) : WS := (wSeq (wSet 2 (wMt "str" kSplit (rN 1) (rsC (rE (wC (.str " "))) rsN))) wPass)
def t_takes (S : Sps) (CR : Nat) : WT := (tV (wOp kEq (rE (wOp kIx (rN 2) (rE (wC (.int 0))))) (rE (wC (.str "room")))))
def w_room (S : Sps) (CR : Nat) : WS :=
  (wSeq (wIfS (tOr (tV (wOp kNe (rE (wB kLen (rsC (rN 1) rsN))) (rE (wC (.int 2))))) (tOr (tV (wOp kNe (rE (wProp CR "own_doors" (rN 0))) (rE (wLst vsN)))) (tV (wOp kEq (rE (wB kLen (rsC (rE (wProp CR "own_rooms" (rN 0))) rsN))) (rE (wC (.int 16))))))) (wRet (wC (.bl false))) wPass)
  (wSeq (wIfS (tOr (tNot (tV (wCall S.is_name (asApp (asV (wOp kIx (rN 1) (rE (wC (.int 1)))) asN) asN)))) (tV (wOp kIn (rE (wOp kIx (rN 1) (rE (wC (.int 1))))) (rE (wProp CR "own_rooms" (rN 0)))))) (wRet (wC (.bl false))) wPass)
  wPass))
def w_told (S : Sps) (CR : Nat) : WS :=
  (wSeq (wSet 1 (wLc (iSq (wProp CR "own_doors" (rN 0))) (gTn 2 (gsC (gN 2) (gsC (gN 3) gsN))) tYes (wB kSorted (rsC (rE (wLst (vsC (wMt "list" kIndex (rE (wProp CR "own_rooms" (rN 0))) (rsC (rN 2) rsN)) (vsC (wMt "list" kIndex (rE (wProp CR "own_rooms" (rN 0))) (rsC (rN 3) rsN)) vsN)))) rsN)) [2, 3]))
  (wRet (wB kTuple (rsC (rE (wLc (iSq (wB kSorted (rsC (rN 1) rsN))) (gTn 2 (gsC (gN 2) (gsC (gN 3) gsN))) tYes (wTup (vsC (wOp kIx (rE (wProp CR "own_rooms" (rN 0))) (rN 2)) (vsC (wOp kIx (rE (wProp CR "own_rooms" (rN 0))) (rN 3)) vsN))) [2, 3])) rsN))))
section
variable {P : Program} {w : World} {K : PySem.W.Frag} {mg : Str → Option Value} {base : Heap}
theorem Txt.bm_init (T : Txt K mg) : Bd T.m_init.fd ["self"] 1 [] := bd_of T.m_init.T fun _ _ _ _ _ _ us ws h1 h2 => match us, ws, h1, h2 with | [_], [], _, _ => rfl
theorem Txt.bm_takes (T : Txt K mg) : Bd T.m_takes.fd ["self", "line"] 2 [] := bd_of T.m_takes.T fun _ _ _ _ _ _ us ws h1 h2 => match us, ws, h1, h2 with | [_, _], [], _, _ => rfl
theorem Txt.bm_room (T : Txt K mg) : Bd T.m_room.fd ["self", "words"] 2 [] := bd_of T.m_room.T fun _ _ _ _ _ _ us ws h1 h2 => match us, ws, h1, h2 with | [_, _], [], _, _ => rfl
theorem Txt.bm_told (T : Txt K mg) : Bd T.m_told.fd ["self"] 1 [] := bd_of T.m_told.T fun _ _ _ _ _ _ us ws h1 h2 => match us, ws, h1, h2 with | [_], [], _, _ => rfl
theorem Txt.bh_init (T : Txt K mg) : Bd T.h_init.fd ["self", "text"] 2 [] := bd_of T.h_init.T fun _ _ _ _ _ _ us ws h1 h2 => match us, ws, h1, h2 with | [_, _], [], _, _ => rfl
theorem scC_init : FnScope ["self"] ["self"] (defScope sR_init) := ⟨rfl, rfl, rfl, by decide +kernel, rfl, by decide +kernel, by decide +kernel⟩
theorem scC_takes : FnScope ["self", "line", "words", "one", "other"] ["self", "line"] (defScope sR_takes) := ⟨rfl, rfl, rfl, by decide +kernel, rfl, by decide +kernel, by decide +kernel⟩
theorem scC_room : FnScope ["self", "words"] ["self", "words"] (defScope sR_room) := ⟨rfl, rfl, rfl, by decide +kernel, rfl, by decide +kernel, by decide +kernel⟩
theorem scC_told : FnScope ["self", "spots", "one", "other"] ["self"] (defScope sR_told) := ⟨rfl, rfl, rfl, by decide +kernel, rfl, by decide +kernel, by decide +kernel⟩
theorem scC_house : FnScope ["self", "text", "reader", "number", "line"] ["self", "text"] (defScope sH_init) := ⟨rfl, rfl, rfl, by decide +kernel, rfl, by decide +kernel, by decide +kernel⟩
theorem dC_takes (T : Txt K mg) (S : Sps)  {W : WX} {f : Addr} {cdv : Value} {A : Around} {outer : List Env} {s : Shared} {H : Hp} {E : XK} (hr : Room 3 (A.deeper (envOfC "Reader.takes" (defScope sR_takes) s.heap.objs.size f cdv)))
    (hF : FmP (cxOf (L2.CX P w) P w K mg base ["self", "line", "words", "one", "other"] "Reader.takes" (defScope sR_takes) f cdv A outer s H E) K W w) : RSx (fmOf _ K W w hF) ((defBody sR_takes).take 6) (w_takes S T.CR) := by
  unfold w_takes
  exact (rx_cons (rs_set 2 (re_split (rr_n 1) (rrs_cons (rr_e re_str) rrs_nil)))
  (rx_cons (rs_if (rt_cmp od_eq (rr_e (re_ix (rr_n 2) (rr_e re_int))) (rr_e (re_gS (fun _ => T.c_ROOM.choose_spec)))) rss_never rss_nil)
  (rx_cons (rs_if (rw_t (rw_or (rt_cmp od_ne (rr_e (re_ix (rr_n 2) (rr_e re_int))) (rr_e (re_gS (fun _ => T.c_DOOR.choose_spec)))) (rw_or (rt_cmp od_ne (rr_e (re_b cd_len (fun _ => T.n_len) (rrs_cons (rr_n 2) rrs_nil))) (rr_e re_int)) (rw_or1 (rt_cmp od_eq (rr_e (re_b cd_len (fun _ => T.n_len) (rrs_cons (rr_e (re_fld "own_doors" T.clR T.noR_doors (rr_n 0))) rrs_nil))) (rr_e (re_gI (fun _ => T.c_MOST_DOORS.choose_spec)))))))) (rss_one (rs_ret re_bl)) rss_nil)
  (rx_cons (rs_asg (vs := [3, 4]) (re_sl (rr_n 2) (ro_s (rr_e re_int)) ro_n) (rg_tn (rgs_cons (rg_n 3 (by decide)) (rgs_cons (rg_n 4 (by decide)) rgs_nil))))
  (rx_cons (rs_if (rw_t (rw_or (rt_cmp od_eq (rr_n 3) (rr_n 4)) (rw_or (rt_cmp od_notIn (rr_n 3) (rr_e (re_fld "own_rooms" T.clR T.noR_rooms (rr_n 0)))) (rw_or1 (rt_cmp od_notIn (rr_n 4) (rr_e (re_fld "own_rooms" T.clR T.noR_rooms (rr_n 0)))))))) (rss_one (rs_ret re_bl)) rss_nil)
  (rx_cons (rs_if (rw_t (rw_or (rt_cmp od_in (rr_e (re_tup (rvs_cons (re_n 3) (rvs_cons (re_n 4) rvs_nil)))) (rr_e (re_fld "own_doors" T.clR T.noR_doors (rr_n 0)))) (rw_or1 (rt_cmp od_in (rr_e (re_tup (rvs_cons (re_n 4) (rvs_cons (re_n 3) rvs_nil)))) (rr_e (re_fld "own_doors" T.clR T.noR_doors (rr_n 0))))))) (rss_one (rs_ret re_bl)) rss_nil)
  rx_nil))))))
theorem dC_takes0 (T : Txt K mg) (S : Sps)  {W : WX} {f : Addr} {cdv : Value} {A : Around} {outer : List Env} {s : Shared} {H : Hp} {E : XK} (hr : Room 3 (A.deeper (envOfC "Reader.takes" (defScope sR_takes) s.heap.objs.size f cdv)))
    (hF : FmP (cxOf (L2.CX P w) P w K mg base ["self", "line", "words", "one", "other"] "Reader.takes" (defScope sR_takes) f cdv A outer s H E) K W w) : RSx (fmOf _ K W w hF) ((defBody sR_takes).take 1) (w_takes0 S T.CR) := by
  unfold w_takes0
  exact (rx_cons (rs_set 2 (re_split (rr_n 1) (rrs_cons (rr_e re_str) rrs_nil))) rx_nil)
theorem dC_takesT (T : Txt K mg) (S : Sps)  {W : WX} {f : Addr} {cdv : Value} {A : Around} {outer : List Env} {s : Shared} {H : Hp} {E : XK} (hr : Room 3 (A.deeper (envOfC "Reader.takes" (defScope sR_takes) s.heap.objs.size f cdv)))
    (hF : FmP (cxOf (L2.CX P w) P w K mg base ["self", "line", "words", "one", "other"] "Reader.takes" (defScope sR_takes) f cdv A outer s H E) K W w) : RT (fmOf _ K W w hF) (match (defBody sR_takes)[1]? with | some (Stmt.If c _ _ _) => c | _ => Expr.Constant .none 0 ⟨0, 0, 0, 0⟩) (t_takes S T.CR) := by
  unfold t_takes
  exact (rt_cmp od_eq (rr_e (re_ix (rr_n 2) (rr_e re_int))) (rr_e (re_gS (fun _ => T.c_ROOM.choose_spec))))
theorem dC_room (T : Txt K mg) (S : Sps) (kp_is_name : FnG P w K mg base 1 T.f_is_name.f T.f_is_name.fd ["value"] (spL K [.fz] S.is_name)) {W : WX} {f : Addr} {cdv : Value} {A : Around} {outer : List Env} {s : Shared} {H : Hp} {E : XK} (hr : Room 2 (A.deeper (envOfC "Reader.takes_room" (defScope sR_room) s.heap.objs.size f cdv)))
    (hF : FmP (cxOf (L2.CX P w) P w K mg base ["self", "words"] "Reader.takes_room" (defScope sR_room) f cdv A outer s H E) K W w) : RSx (fmOf _ K W w hF) ((defBody sR_room).take 2) (w_room S T.CR) := by
  unfold w_room
  exact (rx_cons (rs_if (rw_t (rw_or (rt_cmp od_ne (rr_e (re_b cd_len (fun _ => T.n_len) (rrs_cons (rr_n 1) rrs_nil))) (rr_e re_int)) (rw_or (rt_cmp od_ne (rr_e (re_fld "own_doors" T.clR T.noR_doors (rr_n 0))) (rr_e (re_lst rvs_nil))) (rw_or1 (rt_cmp od_eq (rr_e (re_b cd_len (fun _ => T.n_len) (rrs_cons (rr_e (re_fld "own_rooms" T.clR T.noR_rooms (rr_n 0))) rrs_nil))) (rr_e (re_gI (fun _ => T.c_MOST_ROOMS.choose_spec)))))))) (rss_one (rs_ret re_bl)) rss_nil)
  (rx_cons (rs_if (rw_t (rw_or (rt_not (rt_v (re_call (fun _ => ⟨kp_is_name, hr.mono (by decide)⟩) (fun _ => T.f_is_name.m) T.f_is_name.k T.b_is_name_1 (ras_v (re_ix (rr_n 1) (rr_e re_int)) ras_nil)))) (rw_or1 (rt_cmp od_in (rr_e (re_ix (rr_n 1) (rr_e re_int))) (rr_e (re_fld "own_rooms" T.clR T.noR_rooms (rr_n 0))))))) (rss_one (rs_ret re_bl)) rss_nil)
  rx_nil))
theorem dC_told (T : Txt K mg) (S : Sps)  {W : WX} {f : Addr} {cdv : Value} {A : Around} {outer : List Env} {s : Shared} {H : Hp} {E : XK} (hr : Room 2 (A.deeper (envOfC "Reader.told_doors" (defScope sR_told) s.heap.objs.size f cdv)))
    (hF : FmP (cxOf (L2.CX P w) P w K mg base ["self", "spots", "one", "other"] "Reader.told_doors" (defScope sR_told) f cdv A outer s H E) K W w) : RSs (fmOf _ K W w hF) (defBody sR_told) (w_told S T.CR) := by
  unfold w_told
  exact (rss_cons (rs_lc 1 (ri_sq (re_fld "own_doors" T.clR T.noR_doors (rr_n 0))) (own := [("one", 2), ("other", 3)]) (fun _ => blkOk_by (N := ["self", "spots", "one", "other"]) (sc := defScope sR_told) (by decide +kernel)) (rg_tn (rgs_cons (rg_n 2 (by decide)) (rgs_cons (rg_n 3 (by decide)) rgs_nil))) rts_nil (re_b cd_sorted (fun _ => T.n_sorted) (rrs_cons (rr_e (re_lst (rvs_cons (re_index (rr_e (re_fld "own_rooms" T.clR T.noR_rooms (rr_n 0))) (rrs_cons (rr_n 2) rrs_nil)) (rvs_cons (re_index (rr_e (re_fld "own_rooms" T.clR T.noR_rooms (rr_n 0))) (rrs_cons (rr_n 3) rrs_nil)) rvs_nil)))) rrs_nil)) (fun _ => sw_true rfl rfl rfl (by decide +kernel)))
  (rss_one (rs_ret (re_ty cd_tuple (fun _ => T.n_tuple) (rrs_cons (rr_e (re_lc (ri_sq (re_b cd_sorted (fun _ => T.n_sorted) (rrs_cons (rr_n 1) rrs_nil))) (own := [("one", 2), ("other", 3)]) (fun _ => blkOk_by (N := ["self", "spots", "one", "other"]) (sc := defScope sR_told) (by decide +kernel)) (rg_tn (rgs_cons (rg_n 2 (by decide)) (rgs_cons (rg_n 3 (by decide)) rgs_nil))) rts_nil (re_tup (rvs_cons (re_ix (rr_e (re_fld "own_rooms" T.clR T.noR_rooms (rr_n 0))) (rr_n 2)) (rvs_cons (re_ix (rr_e (re_fld "own_rooms" T.clR T.noR_rooms (rr_n 0))) (rr_n 3)) rvs_nil))))) rrs_nil)))))
end
end K36

set_option Elab.async false
set_option linter.all false
set_option maxRecDepth 100000
set_option maxHeartbeats 4000000
namespace K36
open PySem L2 PySem.Spec PyProof.Rows Pu TL
def spName : DSp := fun ds Q _ => ∃ x, ds = [.str x] ∧ OkName x ∧ Q (.fz (.bl true)) [.non]
theorem good_names {rs : List Str} (h : ∀ x ∈ rs, OkName x) : (D.lst (rs.map D.str)).good = true := by
  refine good_lst (n := 0) (fun d m => ?_) (fun d m => ?_)
  · obtain ⟨x, mx, rfl⟩ := List.mem_map.mp m
    exact (h x mx).ok
  · obtain ⟨x, mx, rfl⟩ := List.mem_map.mp m
    exact Nat.le_refl _
theorem good_doors {ds : List (Str × Str)} (h : ∀ d ∈ ds, OkName d.1 ∧ OkName d.2) : (D.lst (ds.map fun d => .tup [.str d.1, .str d.2])).good = true := by
  refine good_lst (n := 1) (fun d m => ?_) (fun d m => ?_)
  · obtain ⟨x, mx, rfl⟩ := List.mem_map.mp m
    exact Bool.and_eq_true_iff.mpr ⟨(h x mx).1.ok, Bool.and_eq_true_iff.mpr ⟨(h x mx).2.ok, rfl⟩⟩
  · obtain ⟨x, mx, rfl⟩ := List.mem_map.mp m
    exact Nat.le_refl _
theorem good_pair {a b : Str} (ha : OkName a) (hb : OkName b) : (D.tup [.str a, .str b]).good = true := by
  refine good_tup (n := 0) (fun d m => ?_) (fun d m => ?_)
  · rcases List.mem_cons.mp m with rfl | m
    · exact ha.ok
    · rw [List.mem_singleton.mp m]; exact hb.ok
  · rcases List.mem_cons.mp m with rfl | m
    · exact Nat.le_refl _
    · rw [List.mem_singleton.mp m]; exact Nat.le_refl _
theorem wr_room {S : Sps} {CR r : Nat} (hS : S.is_name = spName) {rs : List Str} {nm : Str} (ok : OkName nm) (oks : ∀ x ∈ rs, OkName x) (hlt : rs.length < 16) (hnm : nm ∉ rs) :
    w_room S CR { nx := fun ρ => ρ = [.fz (.at r (rdD CR rs [])), .fz (.lst [.str "room", .str nm])], rt := fun _ _ => False } [.fz (.at r (rdD CR rs [])), .fz (.lst [.str "room", .str nm])] := by
  have g1 := good_names oks
  have g2 := good_str ok.ok
  have g3 : (D.lst []).good = true := rfl
  simp [w_room, rdD, hS, spName, g1, g2, g3, ok, kIx.kIxS, atI, ixN]
  refine ⟨by omega, fun a m e => hnm (e ▸ m)⟩
theorem room_door : ¬ (("door" : Str) = "room") := by decide +kernel
theorem wr_takes {S : Sps} {CR r : Nat} {rs : List Str} {ds : List (Str × Str)} {one other : Str} (oks : ∀ x ∈ rs, OkName x) (okd : ∀ d ∈ ds, OkName d.1 ∧ OkName d.2) (hne : one ≠ other) (h1 : one ∈ rs) (h2 : other ∈ rs) (n1 : (one, other) ∉ ds) (n2 : (other, one) ∉ ds) (hl : ds.length < 60) :
    w_takes S CR { nx := fun ρ => ρ = [.fz (.at r (rdD CR rs ds)), .fz (.str (doorLine one other)), .ow (.lst [.str "door", .str one, .str other]), .fz (.str one), .fz (.str other)], rt := fun _ _ => False } [.fz (.at r (rdD CR rs ds)), .fz (.str (doorLine one other)), .un, .un, .un] := by
  have g1 := good_names oks
  have g2 := good_doors okd
  have k1 := oks _ h1
  have k2 := oks _ h2
  have g3 := good_str k1.ok
  have g4 := good_str k2.ok
  have g5 := good_pair k1 k2
  have g6 := good_pair k2 k1
  have e1 := split_door k1.all k2.all
  have e2 : (doorLine one other).length + 2 ≤ sizeLine := by
    have a1 := k1.few
    have a2 := k2.few
    refine Nat.le_trans ?_ line1000
    rw [len_tl]
    unfold doorLine
    rw [tl_append, tl_append, tl_append, tl_append, door_tl, sp_tl, List.length_append, List.length_append, List.length_append, List.length_append]
    simp only [List.length_cons, List.length_nil]
    omega
  have e3 : (" " : Str).length = 1 := by decide +kernel
  simp [w_takes, rdD, kIx.kIxS, atI, ixN, e1, e2, g1, g2, g3, g4, g5, g6, room_door, hne, h1, h2, e3, Pu.cutD, HT.sIx]
  exact ⟨by omega, n1, n2⟩
theorem slotZ {K : PySem.W.Frag} {B : Bs} {σ : L2.St} {H : Hp} {ρ : En} {Z : Hp} (S : St1 K B σ H ρ Z []) {i : Nat} {d : D} (e : ρ[i]? = some (.fz d)) : ∃ u, σ[i]? = some (some u) ∧ Rp K Z u d := by
  obtain ⟨v, l, r, e1, e2, e3⟩ := zip_focus S.len e
  have R := S.rp
  simp only [tmps, List.map_nil, List.append_nil, e2] at R
  obtain ⟨g, q, _, _⟩ := Reps.at R
  obtain ⟨_, u, rfl, q⟩ := q
  exact ⟨u, e1, q⟩
theorem slotAt {K : PySem.W.Frag} {B : Bs} {σ : L2.St} {H : Hp} {ρ : En} {Z : Hp} (S : St1 K B σ H ρ Z []) {i : Nat} {r : Addr} {d : D} (e : ρ[i]? = some (.fz (.at r d))) : σ[i]? = some (some (.ref r)) := by
  obtain ⟨u, e1, q⟩ := slotZ S e
  cases q with
  | «at» _ => exact e1
theorem slotStr {K : PySem.W.Frag} {B : Bs} {σ : L2.St} {H : Hp} {ρ : En} {Z : Hp} (S : St1 K B σ H ρ Z []) {i : Nat} {x : Str} (e : ρ[i]? = some (.fz (.str x))) : σ[i]? = some (some (.str x)) := by
  obtain ⟨u, e1, q⟩ := slotZ S e
  cases q with
  | str _ => exact e1
section
variable {P : Program} {w : World} {K : PySem.W.Frag} {mg : Str → Option Value} {base : Heap}
theorem r_room (T : Txt K mg) (S : Sps) (hS : S.is_name = spName) (kp_is_name : FnG P w K mg base 1 T.f_is_name.f T.f_is_name.fd ["value"] (spL K [.fz] S.is_name)) : FnG P w K mg base 3 T.m_room.f T.m_room.fd ["self", "words"] (spRoom K T.CR) := by
  refine FnG.def T.m_room.T scC_room (fun vs H Q E h => ?_) (fun cdv A outer s H vs Q E hr hgd h => ?_)
  · obtain ⟨r, dx, a, b, rs, wv, nm, rfl, _⟩ := h
    rfl
  · obtain ⟨r, dx, a, b, rs, wv, nm, rfl, hR, hw, ok, oks, hlt, hnm, k⟩ := h
    have hF := fmP_of (outer := outer) (P := P) (w := w) (K := K) (mg := mg) (base := base) (f := T.m_room.f) (E := E) (H := H) scC_room hr hgd
    obtain ⟨TT, x1, x2⟩ := dC_room T S kp_is_name hr hF
    refine ⟨_, x1 () _ _ (pss_cons (ps_expr (pe_bm PySem.F.plainAttrs_list PySem.F.slot_list_append PySem.F.type_list_append mt_append (pe_fld (pv 0) rfl) (pa_cons (pe_ix ix_list (pv 1) pe_int (by intro _ _; rfl)) pa_nil))) (pss_one (ps_ret pe_bl))), ?_⟩
    refine x2 _ (allB H) _ H [.fz (.at r (rdD T.CR rs [])), .fz (.lst [.str "room", .str nm])] H _ _ (St1.all rfl (.cons (.inr ⟨_, _, rfl, rfl, .at hR.rp⟩) (.cons (.inr ⟨_, _, rfl, rfl, hw⟩) .nil))) (noEnds fun σ H' ρ Z S1 hρ => ?_) (wr_room hS ok oks hlt hnm)
    subst hρ
    have s0 := slotAt S1 (i := 0) rfl
    obtain ⟨wv', s1, rw'⟩ := slotZ S1 (i := 1) rfl
    have hR' := hR.up S1.fx
    cases rw' with
    | lst e1 rl =>
    rename_i wa vs
    cases rl with
    | cons _ rl =>
    cases rl with
    | cons q1 rl =>
    cases q1 with
    | str _ =>
    cases rl with
    | nil =>
    have G := hR.room S1.fx nm
    refine ⟨.ref r, s0, r, T.CR, dx, _, .ref a, rfl, hR'.ob, T.clR, T.noR_rooms, rfl, .inl ⟨rfl, _, .inl (.inl hR'.ro)⟩, .ref wa, s1, ⟨wa, _, 1, .str nm, rfl, rfl, .inl (.inl (S1.sub _ _ e1)), rfl, ?_⟩⟩
    refine ⟨a, _, .str nm, rfl, rfl, hR'.ro, ?_, ?_⟩
    · rw [List.length_map]; exact Nat.lt_trans hlt (by decide)
    · have e : (upd H' a (.lst (List.map V.str rs ++ [.str nm]))) = upd H' a (.lst ((rs ++ [nm]).map .str)) := by rw [List.map_append]; rfl
      rw [e]
      exact k _ G.1 G.2
theorem wr_takes0 {S : Sps} {CR r : Nat} {ds : List (Str × Str)} {rs : List Str} {nm : Str} (ok : OkName nm) :
    w_takes0 S CR { nx := fun ρ => ρ = [.fz (.at r (rdD CR rs ds)), .fz (.str (roomLine nm)), .ow (.lst [.str "room", .str nm]), .un, .un], rt := fun _ _ => False } [.fz (.at r (rdD CR rs ds)), .fz (.str (roomLine nm)), .un, .un, .un] := by
  have e1 := split_room ok.all
  have e2 : (roomLine nm).length + 2 ≤ sizeLine := by
    have a1 := ok.few
    refine Nat.le_trans ?_ line1000
    rw [len_tl]
    unfold roomLine
    rw [tl_append, tl_append, room_tl, sp_tl, List.length_append, List.length_append]
    simp only [List.length_cons, List.length_nil]
    omega
  have e3 : (" " : Str).length = 1 := by decide +kernel
  simp [w_takes0, rdD, e1, e2, e3]
theorem wr_takesT {S : Sps} {CR r : Nat} {ds : List (Str × Str)} {rs : List Str} {ln nm : Str} {E : EX} :
    t_takes S CR E [.fz (.at r (rdD CR rs ds)), .fz (.str ln), .fz (.lst [.str "room", .str nm]), .un, .un] (fun b ρ => b = true ∧ ρ = [.fz (.at r (rdD CR rs ds)), .fz (.str ln), .fz (.lst [.str "room", .str nm]), .un, .un]) := by
  simp [t_takes, kIx.kIxS, atI, ixN]
theorem r_takes (T : Txt K mg) (S : Sps) (hS : S.is_name = spName) (kp_is_name : FnG P w K mg base 1 T.f_is_name.f T.f_is_name.fd ["value"] (spL K [.fz] S.is_name)) : FnG P w K mg base 4 T.m_takes.f T.m_takes.fd ["self", "line"] (spTakes T.CR) := by
  refine FnG.def T.m_takes.T scC_takes (fun vs H Q E h => ?_) (fun cdv A outer s H vs Q E hr hgd h => ?_)
  · obtain ⟨r, dx, a, b, rs, ts, ds, line, rfl, _⟩ := h
    rfl
  · obtain ⟨r, dx, a, b, rs, ts, ds, line, rfl, hR, oks, okd, h⟩ := h
    have hF := fmP_of (outer := outer) (P := P) (w := w) (K := K) (mg := mg) (base := base) (f := T.m_takes.f) (E := E) (H := H) scC_takes hr hgd
    rcases h with ⟨nm, rfl, ok, hlt, hnm, rfl, rfl, k⟩ | ⟨one, other, rfl, hne, h1, h2, n1, n2, hl, hl2, k⟩
    · obtain ⟨TT, x1, x2⟩ := dC_takes0 T S hr hF
      obtain ⟨tt, y1, y2⟩ := dC_takesT T S hr hF
      refine ⟨_, x1 () _ _ (pss_cons (ps_if (y1 ()) (pss_one (ps_ret (pg_meth (pv 0) T.clR T.mt_room (r_room T S hS kp_is_name) (hr.mono (by decide)) hgd T.bm_room hF.tk (pa_cons (pv 2) pa_nil)))) pss_nil) pss_never), ?_⟩
      refine x2 _ (allB H) _ H [.fz (.at r (rdD T.CR rs [])), .fz (.str (roomLine nm)), .un, .un, .un] H _ _ (St1.all rfl (.cons (.inr ⟨_, _, rfl, rfl, .at hR.rp⟩) (.cons (.inr ⟨_, _, rfl, rfl, .str _⟩) (.cons (.inl rfl) (.cons (.inl rfl) (.cons (.inl rfl) .nil)))))) (noEnds fun σ H' ρ Z S1 hρ => ?_) (wr_takes0 ok)
      subst hρ
      obtain ⟨Z1, wv, le1, e1, S2, q2⟩ := St1.thawS S1 (i := 2) rfl (.inr (.inl rfl))
      refine y2 (allB H) _ _ _ Z1 _ _ noEX S2 (fun _ _ _ _ _ _ _ _ _ _ _ q => (show False from q).elim) wr_takesT (fun bb H2 ρ2 Z2 S3 le2 hq => ?_)
      obtain ⟨rfl, rfl⟩ := hq
      have s0 := slotAt S3 (i := 0) rfl
      obtain ⟨wv', s2, rw'⟩ := slotZ S3 (i := 2) rfl
      have hR' := hR.up S3.fx
      refine ⟨.ref r, s0, r, dx, _, rfl, hR'.ob, rfl, wv', s2, rfl, ?_⟩
      refine ⟨r, dx, a, b, rs, wv', nm, rfl, hR', Rp.le S3.sub _ _ rw', ok, oks, hlt, hnm, fun H3 hR3 k3 => k H3 hR3 fun c o e ne => k3 c o (S3.fx c o e) ne⟩
    · obtain ⟨TT, x1, x2⟩ := dC_takes T S hr hF
      refine ⟨_, x1 () _ _ (pss_cons (ps_expr (pe_bm PySem.F.plainAttrs_list PySem.F.slot_list_append PySem.F.type_list_append mt_append (pe_fld (pv 0) rfl) (pa_cons (pe_tup (pa_cons (pv 3) (pa_cons (pv 4) pa_nil))) pa_nil))) (pss_one (ps_ret pe_bl))), ?_⟩
      refine x2 _ (allB H) _ H [.fz (.at r (rdD T.CR rs ds)), .fz (.str (doorLine one other)), .un, .un, .un] H _ _ (St1.all rfl (.cons (.inr ⟨_, _, rfl, rfl, .at hR.rp⟩) (.cons (.inr ⟨_, _, rfl, rfl, .str _⟩) (.cons (.inl rfl) (.cons (.inl rfl) (.cons (.inl rfl) .nil)))))) (noEnds fun σ H' ρ Z S1 hρ => ?_) (wr_takes oks okd hne h1 h2 n1 n2 hl)
      subst hρ
      have s0 := slotAt S1 (i := 0) rfl
      have s3 := slotStr S1 (i := 3) rfl
      have s4 := slotStr S1 (i := 4) rfl
      have hR' := hR.up S1.fx
      refine ⟨.ref r, s0, r, T.CR, dx, _, .ref b, rfl, hR'.ob, T.clR, T.noR_doors, rfl, .inl ⟨rfl, _, .inl (.inl hR'.do_)⟩, .str one, s3, .str other, s4, Nat.le_trans (m := 10) (by show 2 ≤ 10; decide) (by decide), fun p hp => ?_⟩
      have kk : ∀ c o, H c = some o → upd H' p (.tup [.str one, .str other]) c = some o := fun c o e => by
        have := S1.fx c o e
        rw [upd_ne (ne_of_none this hp)]; exact this
      have G := hR.door kk one other (t := p) upd_same
      refine ⟨b, ts.map .ref, .ref p, rfl, rfl, (hR.up kk).do_, ?_, ?_⟩
      · have e : ts.length = ds.length := hR.pa.length
        rw [List.length_map, e]; exact Nat.lt_trans hl (by decide)
      · have e : (upd (upd H' p (.tup [.str one, .str other])) b (.lst (List.map V.ref ts ++ [.ref p]))) = upd (upd H' p (.tup [.str one, .str other])) b (.lst ((ts ++ [p]).map .ref)) := by rw [List.map_append]; rfl
        rw [e]
        exact k _ p (by cases e2 : H p with | none => rfl | some o => rw [S1.fx p o e2] at hp; cases hp) G.1 G.2
end
end K36

set_option Elab.async false
set_option linter.all false
set_option maxRecDepth 100000
set_option maxHeartbeats 4000000
namespace K36
open PySem L2 PySem.Spec PyProof.Rows Pu TL
theorem firstAt_str {x : Str} : ∀ {rs : List Str} (n : Nat), x ∈ rs → ∃ i, firstAt (.str x) n (rs.map D.str) = some (n + i) ∧ rs[i]? = some x
  | [], _, h => by cases h
  | r :: rs, n, h => by
    unfold firstAt
    by_cases e : r = x
    · subst e
      exact ⟨0, by simp [beq_ss], rfl⟩
    · obtain ⟨i, h1, h2⟩ := firstAt_str (rs := rs) (n + 1) (by
        rcases List.mem_cons.mp h with h | h
        · exact absurd h.symm e
        · exact h)
      exact ⟨i + 1, by simp [beq_ss, e, h1]; omega, h2⟩
def idx (rs : List Str) (x : Str) : Nat := ((firstAt (.str x) 0 (rs.map D.str)).getD 0)
theorem idx_at {rs : List Str} {x : Str} (h : x ∈ rs) : firstAt (.str x) 0 (rs.map D.str) = some (idx rs x) ∧ rs[idx rs x]? = some x := by
  obtain ⟨i, h1, h2⟩ := firstAt_str 0 h
  unfold idx
  rw [h1]
  simp [h2]
/-- a comprehension over items that are known -/
theorem lcU {wi : WI} {g : WG} {te : WE} {vs : List Nat} {E : EX} {ρ : En} {Q : Sl → En → Prop} (its : List D) (f : D → D) (hi : ∀ P : List D → En → Prop, P its ρ → wi E ρ P) (hl : its.length ≤ sizeLine)
    (hb : ∀ x ∈ its, ∀ P : D → En → Prop, P (f x) (wipeE ρ vs) → g (.fz x) (wipeE ρ vs) fun ρ2 => te noEX ρ2 fun s ρ4 => s.fr fun d => P d (wipeE ρ4 vs))
    (hq : Q (.ow (.lst (its.map f))) (backE ρ (wipeE ρ vs) vs)) : wLc wi g tYes te vs E ρ Q := hi _ (lc_map f hl hb hq)
theorem lcF {wi : WI} {g : WG} {tt : WT} {te : WE} {vs : List Nat} {E : EX} {ρ : En} {Q : Sl → En → Prop} (its : List D) (f : D → Option D) (hi : ∀ P : List D → En → Prop, P its ρ → wi E ρ P) (hl : its.length ≤ sizeLine)
    (hb : ∀ x ∈ its, ∀ (P : D → En → Prop) (N : En → Prop), (∀ d, f x = some d → P d (wipeE ρ vs)) → (f x = none → N (wipeE ρ vs)) →
      g (.fz x) (wipeE ρ vs) fun ρ2 => tt noEX ρ2 fun b ρ3 => if b = true then te noEX ρ3 fun s ρ4 => s.fr fun d => P d (wipeE ρ4 vs) else N (wipeE ρ3 vs))
    (hq : Q (.ow (.lst (its.filterMap f))) (backE ρ (wipeE ρ vs) vs)) : wLc wi g tt te vs E ρ Q := hi _ (lc_in f hl hb hq)
def two (rs : List Str) (d : Str × Str) : List D := [D.int (idx rs d.1 : Nat), D.int (idx rs d.2 : Nat)].mergeSort leD
theorem two_or (rs : List Str) (d : Str × Str) : two rs d = [D.int (idx rs d.1 : Nat), D.int (idx rs d.2 : Nat)] ∨ two rs d = [D.int (idx rs d.2 : Nat), D.int (idx rs d.1 : Nat)] := by
  have p : (two rs d).Perm [D.int (idx rs d.1 : Nat), D.int (idx rs d.2 : Nat)] := List.mergeSort_perm _ _
  have l := p.length_eq
  match e : two rs d, l with
  | [a, b], _ =>
    rw [e] at p
    have ma := p.mem_iff (a := a) |>.mp (by simp)
    rcases List.mem_cons.mp ma with rfl | ma
    · left
      have := (List.perm_cons _).mp p
      rw [List.perm_singleton.mp this]
    · right
      obtain rfl : a = _ := List.mem_singleton.mp ma
      have p2 := p.trans (List.Perm.swap _ _ [])
      have := (List.perm_cons _).mp p2
      rw [List.perm_singleton.mp this]
def tgp (rs : List Str) : D → Str × Str
  | .lst [.int i, .int j] => (rs[i.toNat]?.getD default, rs[j.toNat]?.getD default)
  | _ => default
def spotsOf (rs : List Str) (ds : List (Str × Str)) : List D := ((ds.map fun d => D.lst (two rs d))).mergeSort leD
theorem wr_told {S : Sps} {CR r : Nat} {rs : List Str} {ds : List (Str × Str)} (oks : ∀ x ∈ rs, OkName x) (okd : ∀ d ∈ ds, d.1 ∈ rs ∧ d.2 ∈ rs) (hl : ds.length ≤ 60) {R : Sl → En → Prop}
    (h : ∀ told : List (Str × Str), (∃ fl : Str × Str → Str × Str, (∀ d ∈ ds, fl d = d ∨ fl d = (d.2, d.1)) ∧ told.Perm (ds.map fl)) → ∀ ρ, R (.fz (.tup (told.map fun d => .tup [.str d.1, .str d.2]))) ρ) :
    w_told S CR { nx := fun _ => False, rt := R } [.fz (.at r (rdD CR rs ds)), .un, .un, .un] := by
  have g1 := good_names oks
  unfold w_told
  simp only [wSeq, wSet, rdD]
  refine lcU (ds.map fun d => D.tup [.str d.1, .str d.2]) (fun d => match d with | .tup [.str a, .str b] => D.lst (two rs (a, b)) | _ => .non) (fun P h => by simpa using h) ?_ (fun x m P k => ?_) ?_
  · rw [List.length_map]; exact Nat.le_trans hl (by decide)
  · obtain ⟨d, md, rfl⟩ := List.mem_map.mp m
    obtain ⟨m1, m2⟩ := okd d md
    have g2 := good_str (oks _ m1).ok
    have g3 := good_str (oks _ m2).ok
    simp [g1, g2, g3, (idx_at m1).1, (idx_at m2).1]
    refine ⟨rfl, ?_, .inr ?_, by decide, ⟨Nat.zero_le _, Nat.zero_le _⟩, k⟩
    · intro a ma b mb
      simp at ma mb
      rcases ma with rfl | rfl <;> rcases mb with rfl | rfl <;> rfl
    · intro a ma
      simp at ma
      rcases ma with rfl | rfl <;> exact ⟨by simp [D.py], by simp [D.py]⟩
  · have e0 : (List.map (fun d => match d with | .tup [.str a, .str b] => D.lst (two rs (a, b)) | _ => D.non) (ds.map fun d => D.tup [.str d.1, .str d.2])) = ds.map fun d => D.lst (two rs d) := by
      rw [List.map_map]; rfl
    rw [e0]
    have h2 : ∀ x ∈ (ds.map fun d => D.lst (two rs d)), ∃ i j : Nat, x = .lst [.int i, .int j] := fun x m => by
      obtain ⟨d, md, rfl⟩ := List.mem_map.mp m
      rcases two_or rs d with e | e <;> exact ⟨_, _, by rw [e]⟩
    have pm : (spotsOf rs ds).Perm (ds.map fun d => D.lst (two rs d)) := List.mergeSort_perm _ _
    simp only [wRet, wB, rsC, rE, rsN]
    show wLc _ _ _ _ _ _ [.fz (.at r (rdD CR rs ds)), .ow (.lst (ds.map fun d => D.lst (two rs d))), .un, .un] _
    refine lcU (spotsOf rs ds) (fun d => D.tup [.str (tgp rs d).1, .str (tgp rs d).2]) (fun P h => ?_) ?_ (fun x m P k => ?_) ?_
    · simp
      refine ⟨?_, ?_, .inr ?_, Nat.le_trans hl (by decide), ?_, h⟩
      · exact plains_of fun x m => by
          obtain ⟨i, j, rfl⟩ := h2 x m
          rfl
      · intro a ma b mb
        obtain ⟨a', ma', rfl⟩ := List.mem_map.mp ma
        obtain ⟨b', mb', rfl⟩ := List.mem_map.mp mb
        obtain ⟨i, j, e1⟩ := h2 _ (List.mem_map.mpr ⟨_, ma', rfl⟩)
        obtain ⟨i', j', e2⟩ := h2 _ (List.mem_map.mpr ⟨_, mb', rfl⟩)
        show W.alike (D.lst (two rs a')).py (D.lst (two rs b')).py = true
        rw [e1, e2]
        rfl
      · intro a ma
        obtain ⟨a', ma', rfl⟩ := List.mem_map.mp ma
        obtain ⟨i, j, e1⟩ := h2 _ (List.mem_map.mpr ⟨_, ma', rfl⟩)
        show (D.lst (two rs a')).py ≠ _ ∧ ∀ xs, (D.lst (two rs a')).py ≠ _
        rw [e1]
        exact ⟨by simp [D.py], by simp [D.py]⟩
      · intro a x y ma ea
        obtain ⟨i, j, e1⟩ := h2 a (List.mem_map.mpr ⟨(x, y), ma, ea⟩)
        rw [e1]
        exact (by decide : 1 ≤ 64)
    · rw [pm.length_eq, List.length_map]; exact Nat.le_trans hl (by decide)
    · obtain ⟨d, md, e⟩ := List.mem_map.mp (pm.mem_iff.mp m)
      subst e
      obtain ⟨m1, m2⟩ := okd d md
      have l1 := (List.getElem?_eq_some_iff.mp (idx_at m1).2).1
      have l2 := (List.getElem?_eq_some_iff.mp (idx_at m2).2).1
      rcases two_or rs d with e | e <;> rw [e] at k ⊢ <;> simp [rdD, kIx.kIxS, atI, ixN, l1, l2] <;> simpa [tgp, rdD, l1, l2] using k
    · show R _ _
      have := h ((spotsOf rs ds).map (tgp rs)) ⟨fun d => tgp rs (.lst (two rs d)), fun d md => ?_, ?_⟩
      · rw [List.map_map] at this
        exact this _
      · obtain ⟨m1, m2⟩ := okd d md
        have e1 := (idx_at m1).2
        have e2 := (idx_at m2).2
        rcases two_or rs d with e | e
        · left; simp [e, tgp, e1, e2]
        · right; simp [e, tgp, e1, e2]
      · have := pm.map (tgp rs)
        rw [List.map_map] at this
        exact this
def Told (ds told : List (Str × Str)) : Prop := ∃ fl : Str × Str → Str × Str, (∀ d ∈ ds, fl d = d ∨ fl d = (d.2, d.1)) ∧ told.Perm (ds.map fl)
def prs (ds : List (Str × Str)) : List D := ds.map fun d => .tup [.str d.1, .str d.2]
def foot (r a b : Addr) (ts : List Addr) (c : Addr) : Prop := c = r ∨ c = a ∨ c = b ∨ c ∈ ts
def spTold (K : PySem.W.Frag) (C : Addr) : Sp := fun vs H Q _ => ∃ (r dx a b : Addr) (rs : List Str) (ts : List Addr) (ds : List (Str × Str)), vs = [.ref r] ∧ RdAt C H r dx a b rs ts ds ∧ (∀ x ∈ rs, OkName x) ∧ (∀ d ∈ ds, d.1 ∈ rs ∧ d.2 ∈ rs) ∧ ds.length ≤ 60 ∧
  ∀ told v H', Told ds told → (∀ c o, H c = some o → H' c = some o) → (∃ Z', Rp K Z' v (.tup (prs told)) ∧ Le Z' H' ∧ ∀ c o, Z' c = some o → foot r a b ts c ∨ H c = none) → Q v H'
def partB (Z H : Hp) : Bs := { allB H with Zb := Z }
theorem St1.part {K : PySem.W.Frag} {σ : L2.St} {H Z : Hp} {ρ : En} (hz : Le Z H) (hl : σ.length = ρ.length) (h : Paired (fun v s => s = .un ∨ ∃ u d, v = some u ∧ s = .fz d ∧ Rp K Z u d) σ ρ) : St1 K (partB Z H) σ H ρ Z [] := by
  refine ⟨hl, hz, fun _ _ e => .inl e, fun _ _ e => e, fun _ _ e => e, fun _ e => e, ?_⟩
  simp only [tmps, List.map_nil, List.append_nil]
  have : ∀ {σ : L2.St} {ρ : En}, Paired (fun v s => s = .un ∨ ∃ u d, v = some u ∧ s = .fz d ∧ Rp K Z u d) σ ρ → ∃ fps : List (List Addr), Paired (fun (e : Ent) fp => SlR K (partB Z H) Z H e.1 fp e.2) (σ.zip ρ) fps ∧ fps.flatten = [] := by
    intro σ ρ h
    induction h with
    | nil => exact ⟨[], .nil, rfl⟩
    | cons q _ ih =>
      obtain ⟨fps, p, e⟩ := ih
      rcases q with rfl | ⟨u, d, rfl, rfl, r⟩
      · exact ⟨[] :: fps, .cons rfl p, by simpa using e⟩
      · exact ⟨[] :: fps, .cons ⟨rfl, u, rfl, r⟩ p, by simpa using e⟩
  obtain ⟨fps, p, e⟩ := this h
  exact ⟨fps, p, by rw [e]; exact List.nodup_nil⟩
noncomputable def cut (H : Hp) (p : Addr → Prop) : Hp := fun c => open Classical in if p c then H c else none
theorem cut_in {H : Hp} {p : Addr → Prop} {c : Addr} {o : HO} (h : H c = some o) (hp : p c) : cut H p c = some o := by unfold cut; rw [if_pos hp]; exact h
theorem cut_of {H : Hp} {p : Addr → Prop} {c : Addr} {o : HO} (h : cut H p c = some o) : H c = some o ∧ p c := by
  unfold cut at h
  by_cases hp : p c
  · rw [if_pos hp] at h; exact ⟨h, hp⟩
  · rw [if_neg hp] at h; cases h
theorem rdAt_cut {C : Addr} {H : Hp} {r dx a b : Addr} {rs : List Str} {ts : List Addr} {ds : List (Str × Str)} (h : RdAt C H r dx a b rs ts ds) : RdAt C (cut H (foot r a b ts)) r dx a b rs ts ds := by
  refine ⟨cut_in h.ob (.inl rfl), cut_in h.ro (.inr (.inl rfl)), cut_in h.do_ (.inr (.inr (.inl rfl))), ?_, h.ab⟩
  have : ∀ {us : List Addr} {ds : List (Str × Str)}, (∀ u ∈ us, u ∈ ts) → Paired (fun t (d : Str × Str) => H t = some (.tup [.str d.1, .str d.2])) us ds → Paired (fun t (d : Str × Str) => cut H (foot r a b ts) t = some (.tup [.str d.1, .str d.2])) us ds := by
    intro us ds hu p
    induction p with
    | nil => exact .nil
    | cons q _ ih => exact .cons (cut_in q (.inr (.inr (.inr (hu _ (List.mem_cons_self ..)))))) (ih fun u m => hu u (List.mem_cons_of_mem _ m))
  exact this (fun _ m => m) h.pa
section
variable {P : Program} {w : World} {K : PySem.W.Frag} {mg : Str → Option Value} {base : Heap}
theorem r_told (T : Txt K mg) (S : Sps) : FnG P w K mg base 3 T.m_told.f T.m_told.fd ["self"] (spTold K T.CR) := by
  refine FnG.def T.m_told.T scC_told (fun vs H Q E h => ?_) (fun cdv A outer s H vs Q E hr hgd h => ?_)
  · obtain ⟨r, dx, a, b, rs, ts, ds, rfl, _⟩ := h
    rfl
  · obtain ⟨r, dx, a, b, rs, ts, ds, rfl, hR, oks, okd, hl, k⟩ := h
    have hF := fmP_of (outer := outer) (P := P) (w := w) (K := K) (mg := mg) (base := base) (f := T.m_told.f) (E := E) (H := H) scC_told hr hgd
    obtain ⟨t, x1, x2⟩ := dC_told T S hr hF
    refine ⟨t, x1 (), ?_⟩
    have hC := rdAt_cut hR
    refine x2 (partB (cut H (foot r a b ts)) H) _ H [.fz (.at r (rdD T.CR rs ds)), .un, .un, .un] (cut H (foot r a b ts)) _ { nx := fun _ => False, rt := fun s _ => ∃ told, Told ds told ∧ s = .fz (.tup (prs told)) } (St1.part (fun c o e => (cut_of e).1) rfl (.cons (.inr ⟨_, _, rfl, rfl, .at hC.rp⟩) (.cons (.inl rfl) (.cons (.inl rfl) (.cons (.inl rfl) .nil))))) ?_ (wr_told oks okd hl fun told h ρ => ⟨told, h, rfl⟩)
    refine ⟨fun _ _ _ _ _ q => (show False from q).elim, fun σ v s' H1 ρ Z S1 q => ?_, fun _ _ _ _ _ q => (show False from q).elim, fun _ _ _ _ _ q => (show False from q).elim, fun _ _ _ _ _ _ _ _ _ _ _ q => (show False from q).elim⟩
    obtain ⟨told, ht, rfl⟩ := q
    obtain ⟨Z', _, S2, rp⟩ := St1.thaw (tmp := []) S1 (.inl rfl)
    exact k told v H1 ht (fun c o e => S1.fx c o e) ⟨Z', rp, S2.sub, fun c o e => (S2.zn c o e).imp (fun e => (cut_of e).2) fun e => e.1⟩
end
end K36

set_option Elab.async false
set_option linter.all false
set_option maxRecDepth 100000
set_option maxHeartbeats 4000000
namespace K36
open PySem L2 PySem.Spec PyProof.Rows Pu TL
def spRInit (C : Addr) : Sp := fun vs H Q _ => ∃ (r dx : Addr), vs = [.ref r] ∧ H r = some (.ins C dx []) ∧
  ∀ a b H', H a = none → H b = none → RdAt C H' r dx a b [] [] [] → (∀ c o, H c = some o → c ≠ r → H' c = some o) → Q .non H'
section
variable {P : Program} {w : World} {K : PySem.W.Frag} {mg : Str → Option Value} {base : Heap}
theorem r_rinit (T : Txt K mg) : FnG P w K mg base 1 T.m_init.f T.m_init.fd ["self"] (spRInit T.CR) := by
  refine FnG.def T.m_init.T scC_init (fun vs H Q E h => ?_) (fun cdv A outer s H vs Q E hr hgd h => ?_)
  · obtain ⟨r, dx, rfl, _⟩ := h
    rfl
  · obtain ⟨r, dx, rfl, hr0, k⟩ := h
    refine ⟨_, pss_cons (ps_fld (pv 0) (pe_lst pa_nil) rfl) (pss_one (ps_fld (pv 0) (pe_lst pa_nil) rfl)), ?_⟩
    refine ⟨by decide, fun p hp => ⟨.ref r, rfl, r, T.CR, dx, [], rfl, ?_, T.clR, T.noR_rooms, by decide, ?_⟩⟩
    · rw [upd_ne (ne_of_none hr0 hp)]; exact hr0
    refine ⟨by decide, fun q hq => ⟨.ref r, rfl, r, T.CR, dx, [("own_rooms", .ref p)], rfl, ?_, T.clR, T.noR_doors, (show 1 < 1000 by decide), ?_⟩⟩
    · have nq : r ≠ q := fun e => by rw [← e, upd_same] at hq; cases hq
      rw [upd_ne nq, upd_same]; rfl
    have nr : r ≠ p := ne_of_none hr0 hp
    have nq : r ≠ q := fun e => by rw [← e, upd_same] at hq; cases hq
    have nqp : p ≠ q := fun e => by rw [← e, upd_ne nr.symm, upd_same] at hq; cases hq
    have ef : putF ("own_doors" : Str) (V.ref q) [("own_rooms", V.ref p)] = [(("own_rooms" : Str), V.ref p), (("own_doors" : Str), V.ref q)] := by simp [putF]
    have hq0 : H q = none := by
      rw [upd_ne nq.symm] at hq
      rw [upd_ne nqp.symm] at hq
      exact hq
    refine k p q _ hp hq0 ⟨?_, ?_, ?_, .nil, nqp⟩ fun c o e ne => ?_
    · rw [upd_same, ef]
    · rw [upd_ne nr.symm, upd_ne nqp, upd_ne nr.symm, upd_same]; rfl
    · rw [upd_ne nq.symm, upd_same]; rfl
    · rw [upd_ne ne, upd_ne (ne_of_none e hq0), upd_ne ne, upd_ne (ne_of_none e hp)]
      exact e
end
end K36

set_option Elab.async false
set_option linter.all false
set_option maxRecDepth 100000
set_option maxHeartbeats 4000000
namespace K36
open PySem L2 PySem.Spec PyProof.Rows Pu TL
def gFld (K : PySem.W.Frag) (ta : TE) (f : Str) : TG := fun v σ H Q => ta σ H fun x H2 => ∃ a C dx fs, x = .ref a ∧ H2 a = some (.ins C dx fs) ∧ Cls K C ∧ NoAttr K C f ∧ fs.length < 1000 ∧ Q σ (upd H2 a (.ins C dx (putF f v fs)))
theorem pg_fld {X : Cx} {o : Expr} {ta : TE} {f : Str} {pos : Pos} (ha : PE X o ta) : PG X (.Attribute o f pos) (gFld X.K ta f) := by
  refine ⟨fun pins s σ H v u Q I r h => ?_⟩
  refine PySem.W.kas_attr (thn (ha.run pins s σ H _ I h) fun ov s2 ⟨x, H2, I2, rx, a, C, dx, fs, ex, ea, c, n, l, q2⟩ => ?_)
  subst ex
  obtain rfl : ov = Value.ref a := rx
  exact setattr_ok I2 ea c n l r fun s3 I3 => ⟨σ, _, I3, q2⟩
theorem rdAt_upd {C : Addr} {H : Hp} {r dx a b x : Addr} {rs : List Str} {ts : List Addr} {ds : List (Str × Str)} {o : HO} {C' d' : Addr} {fs : List (Str × V)} (h : RdAt C H r dx a b rs ts ds) (hx : H x = some (.ins C' d' fs)) (ne : r ≠ x) : RdAt C (upd H x o) r dx a b rs ts ds :=
  ⟨by rw [upd_ne ne]; exact h.ob, by rw [upd_ne (ne_of h.ro hx (by intro z; cases z))]; exact h.ro, by rw [upd_ne (ne_of h.do_ hx (by intro z; cases z))]; exact h.do_, pd_imp h.pa fun t d _ q => by rw [upd_ne (ne_of q hx (by intro z; cases z))]; exact q, h.ab⟩
theorem line_room {rs : List Str} {ds : List (Str × Str)} {i : Nat} {l : Str} (e : (rs.map roomLine ++ ds.map fun d => doorLine d.1 d.2)[i]? = some l) (h : i < rs.length) : ∃ nm, rs[i]? = some nm ∧ l = roomLine nm := by
  rw [List.getElem?_append_left (by rw [List.length_map]; exact h), List.getElem?_map] at e
  cases e2 : rs[i]? with
  | none => rw [e2] at e; cases e
  | some nm => rw [e2] at e; exact ⟨nm, rfl, (Option.some.inj e).symm⟩
theorem line_door {rs : List Str} {ds : List (Str × Str)} {i : Nat} {l : Str} (e : (rs.map roomLine ++ ds.map fun d => doorLine d.1 d.2)[i]? = some l) (h : rs.length ≤ i) : ∃ d, ds[i - rs.length]? = some d ∧ l = doorLine d.1 d.2 := by
  rw [List.getElem?_append_right (by rw [List.length_map]; exact h), List.length_map, List.getElem?_map] at e
  cases e2 : ds[i - rs.length]? with
  | none => rw [e2] at e; cases e
  | some nm => rw [e2] at e; exact ⟨nm, rfl, (Option.some.inj e).symm⟩
theorem take_next {α : Type} {l : List α} {i : Nat} {x : α} (e : l[i]? = some x) : l.take (i + 1) = l.take i ++ [x] := by rw [List.take_add_one, e]; rfl
theorem nodup_take {α : Type} {l : List α} {i : Nat} {x : α} (h : l.Nodup) (e : l[i]? = some x) : x ∉ l.take i := fun m => by
  have h1 : (l.take (i + 1)).Nodup := h.sublist (List.take_sublist _ _)
  rw [take_next e] at h1
  exact (List.nodup_append.mp h1).2.2 x m x (List.mem_singleton.mpr rfl) rfl
theorem rd_off {H H' : Hp} {t : Addr} {vs : List V} (k : ∀ c u, (∀ C d fs, u ≠ .ins C d fs) → H c = some u → H' c = some u) (h : Rd H t (.tup vs)) : Rd H' t (.tup vs) := by
  rcases h with h | ⟨o, h⟩
  · exact .inl (k _ _ (fun _ _ _ z => by cases z) h)
  · exact .inr ⟨o, k _ _ (fun _ _ _ z => by cases z) h⟩
def newOf (H H' : Hp) : Hp := grow (fun _ => none) H H'
theorem pairs_off {K : PySem.W.Frag} {H H' : Hp} {told : List (Str × Str)} {v : V} (k : ∀ c u, (∀ C d fs, u ≠ .ins C d fs) → H c = some u → H' c = some u) (h : Rp K H v (.tup (prs told))) : Rp K H' v (.tup (prs told)) := by
  cases h with
  | tup h rl =>
  refine .tup (rd_off k h) ?_
  clear h
  rename_i vs
  induction told generalizing vs with
  | nil => cases rl with | nil => exact .nil
  | cons d told ih =>
    cases rl with
    | cons q rl =>
    refine .cons ?_ (ih rl)
    cases q with
    | tup h r2 =>
    refine .tup (rd_off k h) ?_
    cases r2 with
    | cons a1 r2 =>
    cases r2 with
    | cons a2 r2 =>
    cases r2 with
    | nil =>
    cases a1 with
    | str _ =>
    cases a2 with
    | str _ => exact .cons (.str _) (.cons (.str _) .nil)
def LinesOk (text : Str) (rs : List Str) (ds : List (Str × Str)) : Prop := Txt.split text "\n" = rs.map roomLine ++ ds.map (fun d => doorLine d.1 d.2) ∧ text.length + 2 ≤ sizeLine ∧ (∀ x ∈ rs, OkName x) ∧ rs.Nodup ∧ rs.length ≤ 16 ∧ ds.length ≤ 60 ∧
  (∀ d ∈ ds, d.1 ∈ rs ∧ d.2 ∈ rs ∧ d.1 ≠ d.2) ∧ ds.Nodup ∧ ∀ d ∈ ds, (d.2, d.1) ∉ ds
def spHInit (K : PySem.W.Frag) (C : Addr) : Sp := fun vs H Q _ => ∃ (x dx : Addr) (text : Str) (rs : List Str) (ds : List (Str × Str)), vs = [.ref x, .str text] ∧ H x = some (.ins C dx []) ∧ LinesOk text rs ds ∧
  ∀ told v1 v2 H', Told ds told → H' x = some (.ins C dx [("own_text", .str text), ("own_rooms", v1), ("own_doors", v2)]) → Rp K (newOf H H') v1 (.ttp (rs.map .str)) → Rp K (newOf H H') v2 (.tup (prs told)) → (∀ c o, c ≠ x → H c = some o → H' c = some o) → Q .non H'
section
variable {P : Program} {w : World} {K : PySem.W.Frag} {mg : Str → Option Value} {base : Heap}
theorem r_hinit (T : Txt K mg) (S : Sps) (hS : S.is_name = spName) (kp_is_name : FnG P w K mg base 1 T.f_is_name.f T.f_is_name.fd ["value"] (spL K [.fz] S.is_name)) : FnG P w K mg base 5 T.h_init.f T.h_init.fd ["self", "text"] (spHInit K T.C) := by
  refine FnG.def T.h_init.T scC_house (fun vs H Q E h => ?_) (fun cdv A outer s H vs Q E hr hgd h => ?_)
  · obtain ⟨x, dx, text, rs, ds, rfl, _⟩ := h
    rfl
  · obtain ⟨x, dx, text, rs, ds, rfl, hx0, ⟨hsp, hts, oks, ndr, lr, ld, okd, ndd, nds⟩, k⟩ := h
    have hF := fmP_of (outer := outer) (P := P) (w := w) (K := K) (mg := mg) (base := base) (f := T.h_init.f) (E := E) (H := H) scC_house hr hgd
    refine ⟨_, pss_cons (ps_if (pt_not (pt_val (pe_callB (cr_isTyK (T := "str")) (by rfl) T.n_isinstance (by rfl) (pa_cons (pv 1) (pa_cons (pe_bltn (v := V.ty "str") (by rfl) T.n_str (by rfl) rfl (by decide) (by decide)) pa_nil)) (by decide) (by decide))) ) pss_never pss_nil)
      (pss_cons (ps_set (i := 2) hF.nd rfl ?_ (pg_make0 T.mkR (r_rinit T) (hr.mono (by decide)) hgd (by rfl) T.mR T.bm_init hF.tk))
      (pss_cons (ps_for hF.po hF.calm (pi_enum (by rfl) T.n_enumerate (pa_cons (pe_split (pv 1) pe_str) pa_nil)) (pg_tup hF.calm (pgs_cons (pg_name (i := 3) hF.nd rfl ?_) (pgs_cons (pg_name (i := 4) hF.nd rfl ?_) pgs_nil))) (pss_one (ps_if (pt_not (pt_val (pg_meth (pv 2) T.clR T.mt_takes (r_takes T S hS kp_is_name) (hr.mono (by decide)) hgd T.bm_takes hF.tk (pa_cons (pv 4) pa_nil)))) pss_never pss_nil)))
      (pss_cons (ps_fld (pv 0) (pv 1) rfl)
      (pss_one (ps_asg (pe_tup (pa_cons (pe_callTy call_told (by rfl) T.n_tuple (by rfl) (pa_cons (pe_fld (pv 2) rfl) pa_nil)) (pa_cons (pg_meth0 (pv 2) T.clR T.mt_told (r_told T S) (hr.mono (by decide)) hgd T.bm_told hF.tk) pa_nil))) (pg_tup hF.calm (pgs_cons (pg_fld (pv 0)) (pgs_cons (pg_fld (pv 0)) pgs_nil)))))))), ?_⟩
    · first | exact Or.inl rfl | exact Or.inr (Or.inl rfl) | rfl
    · first | exact Or.inl rfl | exact Or.inr (Or.inl rfl) | rfl
    · first | exact Or.inl rfl | exact Or.inr (Or.inl rfl) | rfl
    refine ⟨.str text, rfl, .str text, .str text, "str", true, rfl, .str _, rfl, rfl, true, rfl, ?_⟩
    refine iteF ?_
    refine fun r dr hr1 hd1 hne => ⟨r, dr, rfl, upd_same, fun a b H1 ha0 hb0 hR1 k1 => ⟨rfl, ?_⟩⟩
    have hrr : ∀ c o, H c = some o → c ≠ r := fun c o e => ne_of_none e hr1
    have hdd : ∀ c o, H c = some o → c ≠ dr := fun c o e => ne_of_none e hd1
    have kH1 : ∀ c o, H c = some o → H1 c = some o := fun c o e => k1 c o (by rw [upd_ne (hrr c o e), upd_ne (hdd c o e)]; exact e) (hrr c o e)
    have ha : H a = none := by
      have na : a ≠ r := fun e => by rw [e, upd_same] at ha0; cases ha0
      have nd : a ≠ dr := fun e => by rw [e, upd_ne hne, upd_same] at ha0; cases ha0
      rw [upd_ne na, upd_ne nd] at ha0; exact ha0
    have hb : H b = none := by
      have na : b ≠ r := fun e => by rw [e, upd_same] at hb0; cases hb0
      have nd : b ≠ dr := fun e => by rw [e, upd_ne hne, upd_same] at hb0; cases hb0
      rw [upd_ne na, upd_ne nd] at hb0; exact hb0
    refine ⟨.str text, rfl, ⟨text, rfl⟩, text, "\n", rfl, rfl, by decide +kernel, hts, fun p hp => ⟨p, _, rfl, .inl (.inl upd_same), ?_⟩⟩
    have hpH : H p = none := by
      cases e : H p with
      | none => rfl
      | some o => rw [kH1 p o e] at hp; cases hp
    have hlen : (Txt.split text "\n").length = rs.length + ds.length := by rw [hsp, List.length_append, List.length_map, List.length_map]
    refine ⟨fun i m σ H' => σ[0]? = some (some (.ref x)) ∧ σ[1]? = some (some (.str text)) ∧ σ[2]? = some (some (.ref r)) ∧ σ.length = 5 ∧ (∃ ts, RdAt T.CR H' r dr a b (rs.take i) ts (ds.take (i - rs.length)) ∧ ∀ t ∈ ts, H t = none) ∧ H' p = some (.lst ((Txt.split text "\n").map .str)) ∧ (∀ c o, H c = some o → H' c = some o) ∧ i ≤ rs.length + ds.length ∧ m = rs.length + ds.length - i, ⟨_, rfl, rfl, rfl, rfl, ⟨[], ?_, fun _ m => by cases m⟩, upd_same, fun c o e => ?_, Nat.zero_le _, rfl⟩, ?_⟩
    · have := hR1.up (H' := upd H1 p (.lst ((Txt.split text "\n").map .str))) (fun c o e => by rw [upd_ne (ne_of_none e hp)]; exact e)
      simpa using this
    · rw [upd_ne (ne_of_none (kH1 _ _ e) hp)]; exact kH1 _ _ e
    rintro i m σ H2 ⟨s0, s1, s2, sl, ⟨ts, hR2, hts0⟩, hp2, kk, hi, rfl⟩
    by_cases hlt : i < rs.length + ds.length
    · refine .inr ⟨?_, fun σ' H' => σ'[0]? = some (some (.ref x)) ∧ σ'[1]? = some (some (.str text)) ∧ σ'[2]? = some (some (.ref r)) ∧ σ'.length = 5 ∧ (∃ ts, RdAt T.CR H' r dr a b (rs.take (i + 1)) ts (ds.take (i + 1 - rs.length)) ∧ ∀ t ∈ ts, H t = none) ∧ H' p = some (.lst ((Txt.split text "\n").map .str)) ∧ (∀ c o, H c = some o → H' c = some o), fun σ' H' q => ⟨rs.length + ds.length - (i + 1), by omega, q.1, q.2.1, q.2.2.1, q.2.2.2.1, q.2.2.2.2.1, q.2.2.2.2.2.1, q.2.2.2.2.2.2, hlt, rfl⟩, fun v H3 y => ?_⟩
      · have : i < (Txt.split text "\n").length := by rw [hlen]; exact hlt
        exact ⟨_, .str ((Txt.split text "\n")[i]), .inl (.inl hp2), by simp [this]⟩
      obtain ⟨tt, yv, rfl, htt, rfl, hy⟩ := y
      have hy := hy _ (.inl (.inl hp2))
      rw [List.getElem?_map] at hy
      obtain ⟨line, el, rfl⟩ : ∃ line, (Txt.split text "\n")[i]? = some line ∧ yv = .str line := by
        cases e : (Txt.split text "\n")[i]? with
        | none => rw [e] at hy; cases hy
        | some l => rw [e] at hy; exact ⟨l, rfl, (Option.some.inj hy).symm⟩
      rw [hsp] at el
      have k3 : ∀ c o, H2 c = some o → upd H2 tt (.tup [.int i, .str line]) c = some o := fun c o e => by rw [upd_ne (ne_of_none e htt)]; exact e
      have hR3 := hR2.up k3
      have hp3 := k3 _ _ hp2
      have pa : p ≠ a := fun e => by
        have := hR1.ro
        rw [← e, hp] at this
        cases this
      have pb : p ≠ b := fun e => by
        have := hR1.do_
        rw [← e, hp] at this
        cases this
      refine ⟨tt, _, rfl, .inl (.inl upd_same), rfl, .int i, _, rfl, .str line, _, rfl, rfl, ?_⟩
      have t0 : ((σ.set 3 (some (.int i))).set 4 (some (.str line)))[0]? = some (some (.ref x)) := by rw [List.getElem?_set_ne (by decide), List.getElem?_set_ne (by decide)]; exact s0
      have t1 : ((σ.set 3 (some (.int i))).set 4 (some (.str line)))[1]? = some (some (.str text)) := by rw [List.getElem?_set_ne (by decide), List.getElem?_set_ne (by decide)]; exact s1
      have t2 : ((σ.set 3 (some (.int i))).set 4 (some (.str line)))[2]? = some (some (.ref r)) := by rw [List.getElem?_set_ne (by decide), List.getElem?_set_ne (by decide)]; exact s2
      have t4 : ((σ.set 3 (some (.int i))).set 4 (some (.str line)))[4]? = some (some (.str line)) := by rw [List.getElem?_set_self (by rw [List.length_set, sl]; decide)]
      have tl5 : ((σ.set 3 (some (.int i))).set 4 (some (.str line))).length = 5 := by rw [List.length_set, List.length_set, sl]
      refine ⟨.ref r, t2, r, dr, _, rfl, hR3.ob, rfl, .str line, t4, rfl, ?_⟩
      refine ⟨r, dr, a, b, rs.take i, ts, ds.take (i - rs.length), line, rfl, hR3, fun z mz => oks z (List.mem_of_mem_take mz), fun d md => ⟨oks _ (okd d (List.mem_of_mem_take md)).1, oks _ (okd d (List.mem_of_mem_take md)).2.1⟩, ?_⟩
      by_cases hr' : i < rs.length
      · obtain ⟨nm, en, rfl⟩ := line_room el hr'
        have e0 : i - rs.length = 0 := by omega
        have e1 : i + 1 - rs.length = 0 := by omega
        rw [e0, List.take_zero] at hR3
        cases ts with
        | cons _ _ => cases hR3.pa
        | nil =>
        refine .inl ⟨nm, rfl, oks _ (List.mem_of_getElem? en), by rw [List.length_take]; omega, nodup_take ndr en, rfl, by rw [e0, List.take_zero], fun H4 hR4 k4 => ⟨true, rfl, iteF ⟨t0, t1, t2, tl5, ⟨[], ?_, fun _ m => by cases m⟩, k4 _ _ hp3 pa, fun c o e => k4 c o (k3 c o (kk c o e)) (ne_of_none e ha)⟩⟩⟩
        rw [take_next en, e1, List.take_zero]
        exact hR4
      · obtain ⟨d, ed, rfl⟩ := line_door el (by omega)
        have er : rs.take i = rs := List.take_of_length_le (by omega)
        have er' : rs.take (i + 1) = rs := List.take_of_length_le (by omega)
        have e1 : i + 1 - rs.length = (i - rs.length) + 1 := by omega
        have hd := okd d (List.mem_of_getElem? ed)
        refine .inr ⟨d.1, d.2, rfl, hd.2.2, by rw [er]; exact hd.1, by rw [er]; exact hd.2.1, nodup_take ndd ed, fun m => nds d (List.mem_of_getElem? ed) (List.mem_of_mem_take m), by rw [List.length_take]; omega, by rw [er]; exact lr, fun H4 t ht0 hR4 k4 => ⟨true, rfl, iteF ⟨t0, t1, t2, tl5, ⟨ts ++ [t], ?_, fun u m => ?_⟩, k4 _ _ hp3 pb, fun c o e => k4 c o (k3 c o (kk c o e)) (ne_of_none e hb)⟩⟩⟩
        · rw [er', e1, take_next ed]
          rw [er] at hR4
          exact hR4
        · rcases List.mem_append.mp m with m | m
          · exact hts0 u m
          · rw [List.mem_singleton.mp m]
            cases e : H t with
            | none => rfl
            | some o => rw [k3 t o (kk t o e)] at ht0; cases ht0
    · have ei : i = rs.length + ds.length := by omega
      have e1 : rs.take i = rs := List.take_of_length_le (by omega)
      have e2 : ds.take (i - rs.length) = ds := List.take_of_length_le (by omega)
      rw [e1, e2] at hR2
      refine .inl ⟨⟨_, .inl (.inl hp2), by rw [List.length_map, hlen]; omega⟩, ?_⟩
      refine ⟨.str text, s1, .ref x, s0, x, T.C, dx, [], rfl, kk _ _ hx0, T.cl, T.noH_text, by decide, ?_⟩
      have nrx : r ≠ x := fun e => by rw [← e, hr1] at hx0; cases hx0
      have hR4 := rdAt_upd (o := .ins T.C dx (putF "own_text" (.str text) [])) hR2 (kk _ _ hx0) nrx
      refine ⟨.ref r, s2, r, T.CR, dr, _, .ref a, rfl, hR4.ob, T.clR, T.noR_rooms, rfl, a, _, rfl, .inl (.inl hR4.ro), fun l o hl ho => ?_⟩
      have k5 : ∀ c u, upd H2 x (.ins T.C dx (putF "own_text" (.str text) [])) c = some u → upd (upd H2 x (.ins T.C dx (putF "own_text" (.str text) []))) l (.frz o (.tup (rs.map .str))) c = some u := fun c u e => by rw [upd_ne (ne_of_none e hl)]; exact e
      have hR5 := hR4.up k5
      refine ⟨.ref r, s2, r, dr, _, rfl, hR5.ob, rfl, ?_⟩
      refine ⟨r, dr, a, b, rs, ts, ds, rfl, hR5, oks, fun d md => ⟨(okd d md).1, (okd d md).2.1⟩, ld, fun told v H6 ht k6 rp => ?_⟩
      refine ⟨Nat.le_trans (m := 10) (by show 2 ≤ 10; decide) (by decide), fun q hq => ?_⟩
      have x5 := k6 _ _ (k5 x _ upd_same)
      have l6 := k6 l _ upd_same
      have nqx : x ≠ q := ne_of_none x5 hq
      have nql : l ≠ q := ne_of_none l6 hq
      have nlx : l ≠ x := fun e => by rw [e, upd_same] at hl; cases hl
      refine ⟨q, _, rfl, .inl (.inl upd_same), rfl, .ref l, _, rfl, ⟨.ref x, s0, x, T.C, dx, _, rfl, by rw [upd_ne nqx]; exact x5, T.cl, T.noH_rooms, (by simp [putF]), v, _, rfl, ⟨.ref x, s0, x, T.C, dx, _, rfl, upd_same, T.cl, T.noH_doors, (by simp [putF]), ?_⟩⟩⟩
      have ef : putF ("own_doors" : Str) v (putF ("own_rooms" : Str) (V.ref l) (putF ("own_text" : Str) (V.str text) [])) = [(("own_text" : Str), V.str text), (("own_rooms" : Str), V.ref l), (("own_doors" : Str), v)] := by simp [putF]
      refine ⟨rfl, k told (.ref l) v _ ht ?_ ?_ ?_ ?_⟩
      · rw [upd_same, ef]
      · refine .ttp (o := o) ?_ ho (RpL.strs rs)
        have hl0 : H l = none := by
          cases e : H l with
          | none => rfl
          | some u =>
            by_cases el : l = x
            · exact absurd el nlx
            · rw [upd_ne el, kk l u e] at hl; cases hl
        unfold newOf
        rw [grow_new rfl hl0, upd_ne nlx, upd_ne nlx, upd_ne nql]
        exact l6
      · obtain ⟨Z', rp, lz, nz⟩ := rp
        refine pairs_off (fun c u nu e => ?_) rp
        have e6 := lz c u e
        have ncx : c ≠ x := fun ec => by
          rw [ec, x5] at e6
          exact nu _ _ _ (Option.some.inj e6).symm
        have hc0 : H c = none := by
          rcases nz c u e with f | f
          · rcases f with rfl | rfl | rfl | f
            · exact hr1
            · exact ha
            · exact hb
            · exact hts0 c f
          · cases e0 : H c with
            | none => rfl
            | some u0 =>
              rw [k5 c u0 (by rw [upd_ne ncx]; exact kk c u0 e0)] at f
              cases f
        unfold newOf
        rw [grow_new rfl hc0, upd_ne ncx, upd_ne ncx, upd_ne (ne_of_none e6 hq)]
        exact e6
      · intro c u ne e
        rw [upd_ne ne, upd_ne ne]
        have := k6 c u (k5 c u (by rw [upd_ne ne]; exact kk c u e))
        rw [upd_ne (ne_of_none this hq)]
        exact this
end
end K36

set_option Elab.async false
set_option linter.all false
set_option maxRecDepth 100000
set_option maxHeartbeats 4000000
namespace K36
open PySem L2 PySem.Spec PyProof.Rows Pu TL
def houD (C : Nat) (text : Str) (rs : List Str) (told : List (Str × Str)) : D := .ins C ["own_text", "own_rooms", "own_doors"] [.str text, .ttp (rs.map .str), .tup (prs told)]
def spHouse (C : Nat) : DSp := fun ds Q _ => ∃ text rs doors, ds = [.str text] ∧ LinesOk text rs doors ∧ ∀ told, Told doors told → Q (.fz (houD C text rs told)) [.non]
theorem house_ok {K : PySem.W.Frag} {mg : Str → Option Value} (T : Txt K mg) (S : Sps) (hS : S.is_name = spName) (kp : ∀ {P : Program} {w : World} {base : Heap}, FnG P w K mg base 1 T.f_is_name.f T.f_is_name.fd ["value"] (spL K [.fz] S.is_name)) : HouseOk K mg (spHouse T.C) := by
  intro F hFK hmg hr e w p pos he hg h1 h2
  obtain ⟨t, a1, a2⟩ := he
  refine ⟨_, fun i => pg_make (C := T.C) (f := T.h_init.f) (fd := T.h_init.fd) (ps := ["self", "text"]) (k := 5) (n := 1) (sp := spHInit K T.C) (W := F.W) (by rw [F.hK i, hFK]; exact T.mkH) (by rw [F.hK i, hFK, hmg i]; exact r_hinit T S hS kp) (hr i) (F.gd i) (hg i) (by rw [hmg i]; exact T.mH) T.bh_init (F.tk i) (pa_cons (a1 i) pa_nil (h1 i)) (by decide +kernel) (h1 i) (h2 i), LE.of fun B σ H ρ Z Q Q' E S X hw q => ?_⟩
  refine a2 B σ H ρ Z _ _ E S X hw fun v s H1 ρ1 Z1 S1 le1 hq => ?_
  obtain ⟨d, hs, hq⟩ := fr_of hq
  obtain ⟨Z1', le1', S2, r⟩ := S1.thaw1 hs
  obtain ⟨text, rs, doors, e1, lok, hq⟩ : spHouse T.C [d] (fun s outs => Q' s (backD ρ1 [Ar.v d] outs)) (fun C d' outs => E C d' (backD ρ1 [Ar.v d] outs)) := hq
  obtain rfl : d = .str text := by injection e1
  cases r with
  | str _ =>
  refine ⟨rfl, fun y dx hy hdx hne => ⟨y, dx, text, rs, doors, rfl, upd_same, lok, fun told v1 v2 H' ht hx r1 r2 kk => ⟨rfl, ?_⟩⟩⟩
  have kH : ∀ c o, H1 c = some o → H' c = some o := fun c o e => kk c o (ne_of_none e hy) (by rw [upd_ne (ne_of_none e hy), upd_ne (ne_of_none e hdx)]; exact e)
  obtain ⟨S3, le3⟩ := S2.grown kH
  have nz : ∀ c, H1 c = none → Z1' c = none := fun c e => (S2.fresh e).1
  have kn : ∀ c o, newOf (upd (upd H1 dx (.own y)) y (.ins T.C dx [])) H' c = some o → grow Z1' H1 H' c = some o := fun c o e => by
    unfold newOf at e
    rcases grow_of e with e | ⟨_, h0, e⟩
    · cases e
    · have h1 : H1 c = none := by
        have n1 : c ≠ y := fun ec => by rw [ec, upd_same] at h0; cases h0
        have n2 : c ≠ dx := fun ec => by rw [ec, upd_ne hne, upd_same] at h0; cases h0
        rw [upd_ne n1, upd_ne n2] at h0; exact h0
      rw [grow_new (nz c h1) h1]; exact e
  refine q (.ref y) _ H' ρ1 _ (S3.have (.ins (fs := [("own_text", .str text), ("own_rooms", v1), ("own_doors", v2)]) (by rw [grow_new (nz y hy) hy]; exact hx) rfl (.cons (.str _) (.cons (Rp.le kn _ _ (by rw [hFK]; exact r1)) (.cons (Rp.le kn _ _ (by rw [hFK]; exact r2)) .nil))))) (hq told ht)
end K36

set_option Elab.async false
set_option linter.all false
set_option maxRecDepth 100000
set_option maxHeartbeats 1000000
namespace K36
open PySem L2 PySem.Spec PyProof.Rows Pu TL
def potD (a b c : Int) : D := .lst [.int a, .int b, .int c]
def PotOk (k : Nat) (d : D) : Prop := ∃ a b c : Int, d = potD a b c ∧ 0 ≤ a ∧ 0 ≤ b ∧ b < 2 ^ 62 ∧ 0 ≤ c ∧ c ≤ k
theorem PotOk.le {k k' : Nat} {d : D} (h : PotOk k d) (l : k ≤ k') : PotOk k' d := by
  obtain ⟨a, b, c, e, h1, h2, h3, h4, h5⟩ := h
  exact ⟨a, b, c, e, h1, h2, h3, h4, by omega⟩
def spTake : DSp := fun ds Q _ => ∃ p k u, ds = [p, .int u] ∧ PotOk k p ∧ k < 2 ^ 30 ∧ 0 < u ∧ u < 2 ^ 30 ∧ ∀ r p', 0 ≤ r → r < u → PotOk (k + 1) p' → Q (.fz (.int r)) [p', .non]
theorem prime_at {c : Int} : ∃ p : Int, atI [D.int 2147483647, D.int 2147483629, D.int 2147483587, D.int 2147483579, D.int 2147483563] (c % 5) = some (.int p) ∧ 0 < p ∧ p < 2 ^ 31 := by
  have h1 : 0 ≤ c % 5 := Int.emod_nonneg _ (by decide)
  have h2 : c % 5 < 5 := Int.emod_lt_of_pos _ (by decide)
  have : c % 5 = 0 ∨ c % 5 = 1 ∨ c % 5 = 2 ∨ c % 5 = 3 ∨ c % 5 = 4 := by omega
  rcases this with e | e | e | e | e <;> rw [e] <;> exact ⟨_, rfl, by decide, by decide⟩
theorem bits_le {x : Int} {m : Nat} (h : 0 ≤ x) (l : x < 2 ^ m) : Builtin.Int.intBits x ≤ m := by
  unfold Builtin.Int.intBits
  split
  · exact Nat.zero_le _
  · rename_i hx
    have hx : x ≠ 0 := by simpa using hx
    have : x.natAbs < 2 ^ m := by
      have : ((x.natAbs : Nat) : Int) < ((2 ^ m : Nat) : Int) := by rw [Int.natAbs_of_nonneg h]; exact_mod_cast l
      exact_mod_cast this
    exact Nat.succ_le_of_lt ((Nat.log2_lt (by omega)).mpr this)
theorem kp__law_take {S : Sps} {C : Nat} : keeps [.io, .fz] 5 spTake (w__law_take S C) := by
  refine keeps_i fun ds Q E hs hl K hn hr => ?_
  obtain ⟨p, k, u, rfl, ⟨a, b, c, rfl, a0, b0, b1, c0, c1⟩, hk, u0, u1, q⟩ := hs
  unfold w__law_take potD
  refine seq_i fun N hN => ifS_i fun A B hA hB => ?_
  simp [kIx.kIxS, at0, at1, at2]
  by_cases ha : 0 < a
  · simp [ha]
    refine hA _ ?_
    refine seq_i fun N hN => ?_
    simp [kIx.kIxS, at0, at1, at2]
    refine ⟨u0, hN _ ?_⟩
    refine seq_i fun N hN => ?_
    simp [kIx.kIxS, at0, at1, at2, ixN]
    refine ⟨⟨u0, u1⟩, hN _ ?_⟩
    simp
    refine hr _ _ ?_
    simp
    exact q _ _ (Int.emod_nonneg _ (by omega)) (Int.emod_lt_of_pos _ u0) ⟨_, _, _, rfl, Int.ediv_nonneg a0 (by omega), b0, b1, c0, by omega⟩
  · obtain ⟨c', hc'⟩ : ∃ c', c' = c + 1 := ⟨_, rfl⟩
    simp [ha]
    refine hB _ ?_
    simp
    refine hN _ ?_
    refine seq_i fun N hN => ?_
    simp [kIx.kIxS, at0, at1, at2, ixN]
    rw [← hc']
    refine hN _ ?_
    refine seq_i fun N hN => ?_
    obtain ⟨pr, e, p0, p1⟩ := prime_at (c := c')
    simp [kIx.kIxS, at0, at1, at2, ixN, e]
    refine hN _ ?_
    refine seq_i fun N hN => ?_
    simp [kIx.kIxS, at0, at1, at2, ixN, e]
    have hc : 0 ≤ c' ∧ c' ≤ 2 ^ 31 := by omega
    have hm : 0 ≤ c' * c' ∧ c' * c' ≤ 2 ^ 31 * 2 ^ 31 := ⟨Int.mul_nonneg hc.1 hc.1, Int.mul_le_mul hc.2 hc.2 hc.1 (by decide)⟩
    have hx : 0 ≤ b + 90641 * c' * c' + 233 ∧ b + 90641 * c' * c' + 233 < 2 ^ 100 := by
      rw [Int.mul_assoc]
      omega
    refine ⟨.inl ⟨by decide, by decide⟩, .inr ⟨by omega, by omega⟩, ⟨by decide, ?_⟩, p0, hN _ ?_⟩
    · have := bits_le hx.1 hx.2
      omega
    have r0 := Int.emod_nonneg ((b + 90641 * c' * c' + 233) ^ 3) (show pr ≠ 0 by omega)
    have r1 := Int.emod_lt_of_pos ((b + 90641 * c' * c' + 233) ^ 3) p0
    revert r0 r1
    generalize (b + 90641 * c' * c' + 233) ^ 3 % pr = x
    intro r0 r1
    refine seq_i fun N hN => ?_
    simp [kIx.kIxS, at0, at1, at2]
    refine ⟨.inl ⟨by decide, by decide⟩, .inl ⟨by omega, by omega⟩, hN _ ?_⟩
    generalize x * (x % 10369 + 317 * c') % 2305843009213693907 = y
    simp
    refine ⟨⟨by decide, by decide⟩, u0, hr _ _ ?_⟩
    simp
    exact q _ _ (Int.emod_nonneg _ (by omega)) (Int.emod_lt_of_pos _ u0) ⟨_, _, _, rfl, a0, b0, b1, by omega, by omega⟩
end K36

set_option Elab.async false
set_option linter.all false
set_option maxRecDepth 100000
set_option maxHeartbeats 1000000
namespace K36
open PySem L2 PySem.Spec PyProof.Rows Pu TL
def RsOk (rs : List Str) : Prop := (∀ x ∈ rs, OkName x) ∧ rs.Nodup ∧ 1 ≤ rs.length ∧ rs.length ≤ 16
def Hou (C : Nat) (rs : List Str) (A : Nat → Nat → Bool) (d : D) : Prop := ∃ (text : Str) (told : List (Str × Str)) (tq : List (Nat × Nat)), d = houD C text rs told ∧ told = tq.map (fun p : Nat × Nat => (nm rs p.1, nm rs p.2)) ∧ (∀ p ∈ tq, p.1 < rs.length ∧ p.2 < rs.length ∧ p.1 ≠ p.2) ∧ (∀ i j, A i j = true ↔ (i, j) ∈ tq ∨ (j, i) ∈ tq)
def lotD (rs : List Str) (p : Nat → Bool) : D := .tup ((pick rs p).map D.str)
def lotsD (rs : List Str) (lot : Nat → Nat → Bool) (m : Nat) : D := .tup ((List.range m).map fun k => lotD rs (lot k))
def full : Nat → Bool := fun _ => true
def nearD (n : Nat) (A : Nat → Nat → Bool) : D := .lst ((List.range n).map fun i => .int (mk n (A i)))
theorem strs_py (l : List Str) : ∀ d ∈ l.map D.str, d.py.depth = 0 := by
  intro d m
  obtain ⟨x, _, rfl⟩ := List.mem_map.mp m
  rfl
theorem good_tupS {l : List Str} (h : ∀ x ∈ l, OkName x) : (D.tup (l.map D.str)).good = true := good_tup (n := 0) (fun d m => by
  obtain ⟨x, mx, rfl⟩ := List.mem_map.mp m
  exact (h x mx).ok) fun d m => by rw [strs_py l d m]; exact Nat.le_refl _
theorem plain_tupS {l : List Str} (h : ∀ x ∈ l, OkName x) : (D.tup (l.map D.str)).plain = true := good_plain (good_tupS h)
theorem good_lot {rs : List Str} (ok : RsOk rs) (p : Nat → Bool) : (lotD rs p).good = true := good_tupS fun x m => ok.1 x (pick_sub m)
theorem len_sz {n : Nat} (h : n ≤ 16) : n ≤ sizeLine := Nat.le_trans h (by decide)
def spCheck (C : Nat) : DSp := fun ds Q _ => ∃ rs A h, ds = [h] ∧ Hou C rs A h ∧ Q (.fz .non) [.non]
def spIsLotOf (C : Nat) : DSp := fun ds Q _ => ∃ rs A h p, ds = [h, lotD rs p] ∧ Hou C rs A h ∧ RsOk rs ∧ Q (.fz (.bl true)) [.non, .non]
def spBitsOf (C : Nat) : DSp := fun ds Q _ => ∃ rs A h p, ds = [h, lotD rs p] ∧ Hou C rs A h ∧ RsOk rs ∧ Q (.fz (.int (mk rs.length p : Nat))) [.non, .non]
def spLotOf (C : Nat) : DSp := fun ds Q _ => ∃ rs A h p, ds = [h, .int (mk rs.length p : Nat)] ∧ Hou C rs A h ∧ RsOk rs ∧ Q (.fz (lotD rs p)) [.non, .non]
def spNearOf (C : Nat) : DSp := fun ds Q _ => ∃ rs A h, ds = [h] ∧ Hou C rs A h ∧ RsOk rs ∧ Q (.fz (nearD rs.length A)) [.non]
def spFullOf (C : Nat) : DSp := fun ds Q _ => ∃ rs A h, ds = [h] ∧ Hou C rs A h ∧ RsOk rs ∧ Q (.fz (.int (mk rs.length full : Nat))) [.non]
def spAreLots (C : Nat) : DSp := fun ds Q _ => ∃ rs A h lot m, ds = [h, lotsD rs lot m] ∧ Hou C rs A h ∧ RsOk rs ∧ 1 ≤ m ∧ m ≤ 200 ∧ Q (.fz (.bl true)) [.non, .non]
def spCheckLooks (C : Nat) : DSp := fun ds Q _ => ∃ rs A h lot m, ds = [h, lotsD rs lot m] ∧ Hou C rs A h ∧ RsOk rs ∧ 1 ≤ m ∧ m ≤ 200 ∧ Q (.fz .non) [.non, .non]
def spComeFrom : DSp := fun ds Q _ => ∃ n A p, ds = [nearD n A, .int (mk n p : Nat)] ∧ n ≤ 16 ∧ Q (.fz (.int (mk n (come n A p) : Nat))) [.non, .non]
def spLurkBy (C : Nat) : DSp := fun ds Q _ => ∃ rs A h lot m, ds = [h, lotsD rs lot m] ∧ Hou C rs A h ∧ RsOk rs ∧ m ≤ 200 ∧ Q (.fz (.lst ((List.range m).map fun k => .int (mk rs.length (stF rs.length A lot full k) : Nat)))) [.non, .non]
def spLurk (C : Nat) : DSp := fun ds Q _ => ∃ rs A h lot m, ds = [h, lotsD rs lot m] ∧ Hou C rs A h ∧ RsOk rs ∧ 1 ≤ m ∧ m ≤ 200 ∧ Q (.fz (lotsD rs (stF rs.length A lot full) m)) [.non, .non]
def isCaught (n : Nat) (A lot : Nat → Nat → Bool) (m : Nat) : Bool := (List.range m).any fun k => decide (mk n (stF n A lot full k) = 0)
def spCatch (C : Nat) : DSp := fun ds Q _ => ∃ rs A h lot m, ds = [h, lotsD rs lot m] ∧ Hou C rs A h ∧ RsOk rs ∧ 1 ≤ m ∧ m ≤ 200 ∧ Q (.fz (.bl (isCaught rs.length A lot m))) [.non, .non]
theorem beq_same {d : D} (h : d.nob = true) : beq d d = true := (beq_iff _ _ h h).mpr rfl
theorem kb_tup : kitB "tuple" "tuple" = some true := by decide +kernel
theorem kb_str : kitB "str" "str" = some true := by decide +kernel
theorem kp_check_house {S : Sps} {C : Nat} : keeps [.fz] 1 (spCheck C) (w_check_house S C) := by
  refine keeps_i fun ds Q E hs hl K hn hr => ?_
  obtain ⟨rs, A, h, rfl, ⟨text, told, tq, rfl, e1, e2, e3⟩, q⟩ := hs
  unfold w_check_house houD
  simp
  refine hn _ ?_
  simpa using q
theorem kp_is_lot_of {S : Sps} {C : Nat} : keeps [.fz, .fz] 3 (spIsLotOf C) (w_is_lot_of S C) := by
  refine keeps_i fun ds Q E hs hl K hn hr => ?_
  obtain ⟨rs, A, h, p, rfl, ⟨text, told, tq, rfl, e1, e2, e3⟩, ok, q⟩ := hs
  have gl := good_lot ok p
  have lp := Nat.le_trans (pick_len rs p) ok.2.2.2
  unfold w_is_lot_of houD lotD at *
  refine seq_i fun N hN => ifS_i fun A B hA hB => ?_
  simp only [Pu.tOr, Pu.tNot, tV, wB, rsC, rE, rsN]
  simp [kb_tup]
  refine lcM (pick rs p) D.str (fun _ => D.bl true) (fun P h => by simpa using h) (len_sz lp) (fun x m P h => by simpa [kb_str] using h) ?_
  simp [blsOf_m]
  refine hB _ ?_
  simp
  refine hN _ ?_
  simp only [wRet, wB, rsC, rE, rsN, wOp, rN]
  simp
  refine lcB rs D.str (fun r => decide (r ∈ pick rs p)) D.str (fun P h => by simpa using h) (len_sz ok.2.2.2) (fun x m P N h1 h2 => ?_) ?_
  · simp [good_str (ok.1 x m).ok, gl, any_strs]
    by_cases hx : x ∈ pick rs p <;> simp [hx] at h1 h2 ⊢ <;> assumption
  · rw [pick_filter ok.2.1]
    simp [gl]
    refine hr _ _ ?_
    rw [beq_same (show D.nob (D.tup _) = true from nobs_strs _)]
    simpa using q
theorem num_items (rs : List Str) : numbered 0 (rs.map D.str) = (List.range rs.length).map fun (i : Nat) => D.tup [.int i, .str (nm rs i)] := by
  rw [numbered_eq, List.length_map]
  refine List.map_congr_left fun i m => ?_
  rw [List.getElem?_map, nm_at (List.mem_range.mp m)]
  simp
theorem sh1 {i : Nat} (h : i ≤ 16) : CPow 1 (i : Int) := ⟨by omega, by omega, by decide⟩
theorem kp_bits_of {S : Sps} {C : Nat} : keeps [.fz, .fz] 4 (spBitsOf C) (w_bits_of S C) := by
  refine keeps_i fun ds Q E hs hl K hn hr => ?_
  obtain ⟨rs, A, h, p, rfl, ⟨text, told, tq, rfl, e1, e2, e3⟩, ok, q⟩ := hs
  have gl := good_lot ok p
  unfold w_bits_of houD lotD at *
  simp only [wRet, wB, rsC, rE, rsN]
  refine lcB (List.range rs.length) (fun (i : Nat) => D.tup [.int i, .str (nm rs i)]) (fun i => decide (nm rs i ∈ pick rs p)) (fun i => D.int (2 ^ i)) (fun P h => by simpa [num_items] using h) (by rw [List.length_range]; exact len_sz ok.2.2.2) (fun i m P N h1 h2 => ?_) ?_
  · have hi := List.mem_range.mp m
    simp [good_str (ok.1 _ (nm_mem hi)).ok, gl, any_strs]
    by_cases hx : nm rs i ∈ pick rs p
    · simp [hx] at h1 ⊢
      exact ⟨sh1 (by have := ok.2.2.2; omega), h1⟩
    · simp [hx] at h2 ⊢
      exact h2
  · simp [intsOf_m]
    refine hr _ _ ?_
    have e : (List.range rs.length).filter (fun i => decide (nm rs i ∈ pick rs p)) = (List.range rs.length).filter p := List.filter_congr fun i m => by
      have := mem_pick (p := p) ok.2.1 (List.mem_range.mp m)
      rw [Bool.eq_iff_iff, decide_eq_true_iff]
      exact this
    rw [e, sum_mk]
    simpa using q
theorem kp_lot_of {S : Sps} {C : Nat} : keeps [.fz, .fz] 4 (spLotOf C) (w_lot_of S C) := by
  refine keeps_i fun ds Q E hs hl K hn hr => ?_
  obtain ⟨rs, A, h, p, rfl, ⟨text, told, tq, rfl, e1, e2, e3⟩, ok, q⟩ := hs
  unfold w_lot_of houD lotD at *
  simp only [wRet, wB, rsC, rE, rsN]
  refine lcB (List.range rs.length) (fun (i : Nat) => D.tup [.int i, .str (nm rs i)]) p (fun i => D.str (nm rs i)) (fun P h => by simpa [num_items] using h) (by rw [List.length_range]; exact len_sz ok.2.2.2) (fun i m P N h1 h2 => ?_) ?_
  · have hi := List.mem_range.mp m
    have hb := bit_mk (p := p) hi
    simp
    rw [← hb] at h1 h2
    by_cases hx : Builtin.bitAnd ((mk rs.length p : Int) / 2 ^ i) 1 = 1
    · simp [hx] at h1 ⊢
      exact h1
    · simp [hx] at h2 ⊢
      exact h2
  · simp
    refine hr _ _ ?_
    simpa [pick, nums, nm, Function.comp_def] using q
theorem kp_full_of {S : Sps} {C : Nat} : keeps [.fz] 1 (spFullOf C) (w_full_of S C) := by
  refine keeps_i fun ds Q E hs hl K hn hr => ?_
  obtain ⟨rs, A, h, rfl, ⟨text, told, tq, rfl, e1, e2, e3⟩, ok, q⟩ := hs
  unfold w_full_of houD at *
  simp
  refine ⟨sh1 ok.2.2.2, hr _ _ ?_⟩
  have := mk_all rs.length
  have e : (2 : Int) ^ rs.length - 1 = (mk rs.length full : Nat) := by
    have h2 : ((2 ^ rs.length : Nat) : Int) = (2 : Int) ^ rs.length := by simp
    rw [← h2, ← this]
    unfold full
    omega
  rw [e]
  simpa using q
theorem kp_are_lots {S : Sps} {C : Nat} (h1 : S.is_lot_of = spIsLotOf C) : keeps [.fz, .fz] 3 (spAreLots C) (w_are_lots S C) := by
  refine keeps_i fun ds Q E hs hl K hn hr => ?_
  obtain ⟨rs, A, h, lot, m, rfl, hh, ok, m1, m2, q⟩ := hs
  have gl : (lotsD rs lot m).good = true := good_tup (n := 1) (fun d md => by
    obtain ⟨k, _, rfl⟩ := List.mem_map.mp md
    exact good_plain (good_lot ok _)) fun d md => by
    obtain ⟨k, _, rfl⟩ := List.mem_map.mp md
    show PyData.depthAll (pys ((pick rs (lot k)).map D.str)) + 1 ≤ 1
    rw [depth_pys0 (strs_py _)]
    exact Nat.le_refl _
  unfold w_are_lots lotsD at *
  simp only [wRet, wAnd, wOp, wB, rsC, rE, rsN, rN]
  have ne : beq (D.tup ((List.range m).map fun k => lotD rs (lot k))) (D.tup []) = false := by
    obtain ⟨m, rfl⟩ : ∃ m', m = m' + 1 := ⟨m - 1, by omega⟩
    rw [List.range_succ_eq_map]
    rfl
  have g0 : (D.tup []).good = true := rfl
  simp [kb_tup, gl, ne, g0]
  refine lcM (List.range m) (fun k => lotD rs (lot k)) (fun _ => D.bl true) (fun P h => by simpa using h) (by rw [List.length_range]; exact Nat.le_trans m2 (by decide)) (fun x mx P h => ?_) ?_
  · simp [h1]
    exact ⟨rs, A, _, _, rfl, hh, ok, by simpa using h⟩
  · simp [blsOf_m]
    refine hr _ _ ?_
    rw [show ((List.range m).all fun _ => true) = true from List.all_eq_true.mpr fun _ _ => rfl]
    simpa using q
theorem kp_check_looks {S : Sps} {C : Nat} (h1 : S.check_house = spCheck C) (h2 : S.are_lots = spAreLots C) : keeps [.fz, .fz] 2 (spCheckLooks C) (w_check_looks S C) := by
  refine keeps_i fun ds Q E hs hl K hn hr => ?_
  obtain ⟨rs, A, h, lot, m, rfl, hh, ok, m1, m2, q⟩ := hs
  unfold w_check_looks lotsD at *
  refine seq_i fun N hN => ?_
  simp [h1]
  refine ⟨rs, A, _, rfl, hh, ?_⟩
  simp
  refine hN _ ?_
  simp [h2]
  refine ⟨rs, A, _, lot, m, rfl, hh, ok, m1, m2, ?_⟩
  have : ¬ (200 : Int) < m := by omega
  simp [this]
  refine hn _ ?_
  simpa using q
theorem at_map {n i : Nat} {f : Nat → D} (h : i < n) : atI ((List.range n).map f) (i : Int) = some (f i) := by
  rw [atN (by simpa using h)]
  simp
theorem ixN_nat {n i : Nat} (h : i < n) : ixN n (i : Int) = some i := by simp [ixN, h]
theorem set_map {n i : Nat} {f : Nat → D} {x : D} : ((List.range n).map f).set i x = (List.range n).map fun v => if v = i then x else f v := by
  refine List.ext_getElem? fun k => ?_
  rw [List.getElem?_set]
  by_cases hk : k < n
  · by_cases e : i = k
    · subst e; simp [hk]
    · have e' : ¬ k = i := fun h => e h.symm
      simp [hk, e, e']
  · have h2 : ((List.range n).map fun v => if v = i then x else f v)[k]? = none := List.getElem?_eq_none (by simp; omega)
    rw [h2]
    by_cases e : i = k
    · subst e; simp [hk]
    · rw [if_neg e]; exact List.getElem?_eq_none (by simp; omega)
theorem firstS_at : ∀ {rs : List Str} (k : Nat) {i : Nat}, rs.Nodup → i < rs.length → firstS (nm rs i) k rs = some (k + i)
  | [], _, _, _, h => absurd h (Nat.not_lt_zero _)
  | r :: rs, k, 0, _, _ => by unfold firstS; simp [nm]
  | r :: rs, k, i + 1, nd, h => by
    have e : nm (r :: rs) (i + 1) = nm rs i := by simp [nm]
    have hi : i < rs.length := Nat.lt_of_succ_lt_succ h
    rw [List.nodup_cons] at nd
    have ne : r ≠ nm rs i := fun e => nd.1 (e ▸ nm_mem hi)
    rw [e]
    unfold firstS
    rw [if_neg (by first | exact ne | exact fun e => ne e.symm), firstS_at (k + 1) nd.2 hi]
    congr 1
    omega
def adj (tq : List (Nat × Nat)) (i j : Nat) : Bool := decide ((i, j) ∈ tq) || decide ((j, i) ∈ tq)
theorem kp_near_of {S : Sps} {C : Nat} : keeps [.fz] 6 (spNearOf C) (w_near_of S C) := by
  refine keeps_i fun ds Q E hs hl K hn hr => ?_
  obtain ⟨rs, A, h, rfl, ⟨text, told, tq, rfl, rfl, e2, e3⟩, ok, q⟩ := hs
  have hl : rs.length ≤ 16 := ok.2.2.2
  unfold w_near_of houD at *
  obtain ⟨T, hT⟩ : ∃ T, T = prs (tq.map fun p => (nm rs p.1, nm rs p.2)) := ⟨_, rfl⟩
  rw [← hT]
  have hT : T = tq.map fun p => D.tup [.str (nm rs p.1), .str (nm rs p.2)] := by rw [hT]; unfold prs; rw [List.map_map]; rfl
  refine seq_i fun N hN => ?_
  simp
  have b1 : (rs.length : Int) < 2 ^ 63 := by omega
  refine ⟨b1, len_sz hl, hN _ ?_⟩
  refine seq_i fun N hN => ?_
  refine forJ tq (fun p => D.tup [.str (nm rs p.1), .str (nm rs p.2)]) (fun P h => by simpa [← hT] using h) (fun k a b c d => [.fz (.ins C ["own_text", "own_rooms", "own_doors"] [.str text, .ttp (rs.map .str), .tup T]), .ow (nearD rs.length (adj (tq.take k))), a, b, c, d]) ⟨.un, .un, .un, .un, ?_⟩ (fun k hk a b c d N hN => ?_) (fun a b c d => hN _ ?_)
  · have e : List.replicate rs.length (D.int 0) = (List.range rs.length).map fun i => D.int (mk rs.length (adj (tq.take 0) i) : Nat) := by
      have : ∀ i, mk rs.length (adj (tq.take 0) i) = 0 := fun i => mk_zero.mpr fun j _ => by simp [adj]
      simp only [this]
      rw [List.map_const', List.length_range]
      rfl
    rw [e]
    rfl
  · obtain ⟨i1, i2, i3⟩ := e2 _ (List.getElem_mem hk)
    revert i1 i2 i3
    generalize hij : tq[k] = ij
    obtain ⟨i, j⟩ := ij
    intro i1 i2 i3
    have i1 : i < rs.length := i1
    have i2 : j < rs.length := i2
    have i3 : i ≠ j := i3
    unfold nearD
    simp [strsOf_map, firstS_at 0 ok.2.1 i1, firstS_at 0 ok.2.1 i2, kIx.kIxS, at_map i1, at_map i2, ixN_nat i1, ixN_nat i2, set_map]
    refine ⟨sh1 (by omega), sh1 (by omega), ?_⟩
    have e : ((List.range rs.length).map fun v => if v = j then D.int (Builtin.bitOr (mk rs.length (adj (tq.take k) j) : Nat) (2 ^ i)) else if v = i then D.int (Builtin.bitOr (mk rs.length (adj (tq.take k) i) : Nat) (2 ^ j)) else D.int (mk rs.length (adj (tq.take k) v) : Nat)) = (List.range rs.length).map fun v => D.int (mk rs.length (adj (tq.take (k + 1)) v) : Nat) := by
      have o1 : ((2 : Int) ^ i) = (mk rs.length (fun x => decide (x = i)) : Nat) := by rw [mk_one i1]; simp
      have o2 : ((2 : Int) ^ j) = (mk rs.length (fun x => decide (x = j)) : Nat) := by rw [mk_one i2]; simp
      have ht : tq.take (k + 1) = tq.take k ++ [(i, j)] := by rw [List.take_add_one, List.getElem?_eq_getElem hk, hij]; rfl
      rw [o1, o2, bor_mk, bor_mk, ht]
      refine List.map_congr_left fun v _ => ?_
      have ad : ∀ v x, adj (tq.take k ++ [(i, j)]) v x = (adj (tq.take k) v x || (decide (v = i) && decide (x = j)) || (decide (v = j) && decide (x = i))) := fun v x => by
        rw [Bool.eq_iff_iff]
        simp [adj]
        grind
      by_cases v1 : v = j
      · subst v1
        rw [if_pos rfl]
        congr 2
        refine mk_ext fun x _ => ?_
        rw [ad]
        have : ¬ v = i := fun e => i3 e.symm
        simp [this]
      · rw [if_neg v1]
        by_cases v2 : v = i
        · subst v2
          rw [if_pos rfl]
          congr 2
          refine mk_ext fun x _ => ?_
          rw [ad]
          simp [i3]
        · rw [if_neg v2]
          congr 2
          refine mk_ext fun x _ => ?_
          rw [ad]
          simp [v1, v2]
    rw [e]
    exact hN _ _ _ _
  · simp
    refine hr _ _ ?_
    have e : adj tq = A := by
      funext i j
      rw [Bool.eq_iff_iff, e3 i j]
      simp [adj]
    simp [e]
    exact q
end K36

set_option Elab.async false
set_option linter.all false
set_option maxRecDepth 100000
set_option maxHeartbeats 1000000
namespace K36
open PySem L2 PySem.Spec PyProof.Rows Pu TL
def part (n : Nat) (A : Nat → Nat → Bool) (p : Nat → Bool) (k j : Nat) : Bool := (List.range k).any fun i => p i && hop n A i j
theorem part_succ {n : Nat} {A : Nat → Nat → Bool} {p : Nat → Bool} {k j : Nat} : part n A p (k + 1) j = (part n A p k j || (p k && hop n A k j)) := by
  unfold part
  rw [List.range_succ, List.any_append]
  simp
theorem num_near (n : Nat) (f : Nat → D) : numbered 0 ((List.range n).map f) = (List.range n).map fun (i : Nat) => D.tup [.int i, f i] := by
  rw [numbered_eq, List.length_map, List.length_range]
  refine List.map_congr_left fun i m => ?_
  rw [List.getElem?_map, List.getElem?_range (List.mem_range.mp m)]
  simp
theorem alone_mk {n : Nat} {A : Nat → Nat → Bool} {i : Nat} : alone n A i = decide (mk n (A i) = 0) := by
  unfold alone
  rw [Bool.eq_iff_iff, decide_eq_true_iff, mk_zero]
  simp
theorem kp_come_from {S : Sps} {C : Nat} : keeps [.fz, .fz] 5 spComeFrom (w_come_from S C) := by
  refine keeps_i fun ds Q E hs hl K hn hr => ?_
  obtain ⟨n, A, p, rfl, hl, q⟩ := hs
  unfold w_come_from
  refine seq_i fun N hN => ?_
  simp
  refine hN _ ?_
  refine seq_i fun N hN => ?_
  refine forJ (List.range n) (fun (i : Nat) => D.tup [.int i, .int (mk n (A i) : Nat)]) (fun P h => ?_) (fun k a b c d => [.fz (nearD n A), .fz (.int (mk n p : Nat)), .fz (.int (mk n (part n A p k) : Nat)), a, b]) ⟨.un, .un, .un, .un, ?_⟩ (fun k hk a b c d N hN => ?_) (fun a b c d => hN _ ?_)
  · unfold nearD at h ⊢
    simpa [num_near] using h
  · have : mk n (part n A p 0) = 0 := mk_zero.mpr fun _ _ => rfl
    rw [this]
    rfl
  · have hk : k < n := by simpa using hk
    rw [List.getElem_range]
    simp
    have hb := bit_mk (p := p) hk
    by_cases hx : Builtin.bitAnd ((mk n p : Int) / 2 ^ k) 1 = 1
    · have hp : p k = true := by rw [← hb]; simp [hx]
      rw [if_pos hx]
      by_cases h0 : mk n (A k) = 0
      · simp [h0]
        refine ⟨sh1 (by omega), ?_⟩
        have o1 : ((2 : Int) ^ k) = (mk n (fun x => decide (x = k)) : Nat) := by rw [mk_one hk]; simp
        rw [o1, bor_mk, mk_ext (p := fun i => part n A p k i || decide (i = k)) (q := part n A p (k + 1)) (fun j _ => ?_)]
        · exact hN _ _ .un .un
        · rw [part_succ, hp]
          unfold hop
          rw [alone_mk, h0]
          simp
      · simp [h0]
        rw [bor_mk, mk_ext (p := fun i => part n A p k i || A k i) (q := part n A p (k + 1)) (fun j _ => ?_)]
        · exact hN _ _ .un .un
        · rw [part_succ, hp]
          unfold hop
          rw [alone_mk]
          simp [h0]
    · have hp : p k = false := by rw [← hb]; simp [hx]
      rw [if_neg hx, mk_ext (p := part n A p k) (q := part n A p (k + 1)) (fun j _ => ?_)]
      · exact hN _ _ .un .un
      · rw [part_succ, hp]
        simp
  · simp
    refine hr _ _ ?_
    have e : part n A p n = come n A p := rfl
    rw [e]
    simpa using q
theorem kp_may_lurk_by {S : Sps} {C : Nat} (h1 : S.near_of = spNearOf C) (h2 : S.full_of = spFullOf C) (h3 : S.bits_of = spBitsOf C) (h4 : S.come_from = spComeFrom) : keeps [.fz, .fz] 6 (spLurkBy C) (w_may_lurk_by S C) := by
  refine keeps_i fun ds Q E hs hl K hn hr => ?_
  obtain ⟨rs, A, h, lot, m, rfl, hh, ok, hm, q⟩ := hs
  unfold w_may_lurk_by
  refine seq_i fun N hN => ?_
  simp [h1, h2]
  refine ⟨rs, A, h, rfl, hh, ok, ?_⟩
  simp
  refine ⟨rs, A, h, rfl, hh, ok, ?_⟩
  simp
  refine hN _ ?_
  refine seq_i fun N hN => ?_
  refine forJ (List.range m) (fun k => lotD rs (lot k)) (fun P h => ?_) (fun k a b c d => [.fz h, .fz (lotsD rs lot m), .fz (nearD rs.length A), .fz (.int (mk rs.length (stT rs.length A lot full k) : Nat)), .ow (.lst ((List.range k).map fun k => .int (mk rs.length (stF rs.length A lot full k) : Nat))), a]) ⟨.un, .un, .un, .un, ?_⟩ (fun k hk a b c d N hN => ?_) (fun a b c d => hN _ ?_)
  · unfold lotsD at h ⊢
    simpa using h
  · rfl
  · rw [List.getElem_range]
    refine seq_i fun N' hN' => ?_
    simp [h3]
    refine ⟨rs, A, h, lot k, rfl, hh, ok, ?_⟩
    simp [band_mk]
    refine hN' _ ?_
    have hk : k < m := by simpa using hk
    refine seq_i fun N' hN' => ?_
    simp
    refine ⟨Nat.lt_of_lt_of_le hk (Nat.le_trans hm (by decide)), hN' _ ?_⟩
    simp [h4]
    refine ⟨rs.length, A, _, rfl, ok.2.2.2, ?_⟩
    simp
    have e : ((List.range k).map fun k => D.int (mk rs.length (stF rs.length A lot full k) : Nat)) ++ [.int (mk rs.length (fun i => stT rs.length A lot full k i && !lot k i) : Nat)] = (List.range (k + 1)).map fun k => D.int (mk rs.length (stF rs.length A lot full k) : Nat) := by
      rw [List.range_succ, List.map_append]
      rfl
    rw [e]
    exact hN _ .un .un .un
  · simp
    refine hr _ _ ?_
    simpa using q
theorem kp_may_lurk {S : Sps} {C : Nat} (h1 : S.check_looks = spCheckLooks C) (h2 : S.may_lurk_by = spLurkBy C) (h3 : S.lot_of = spLotOf C) : keeps [.fz, .fz] 3 (spLurk C) (w_may_lurk S C) := by
  refine keeps_i fun ds Q E hs hl K hn hr => ?_
  obtain ⟨rs, A, h, lot, m, rfl, hh, ok, m1, m2, q⟩ := hs
  unfold w_may_lurk
  refine seq_i fun N hN => ?_
  simp [h1]
  refine ⟨rs, A, h, lot, m, rfl, hh, ok, m1, m2, ?_⟩
  simp
  refine hN _ ?_
  simp only [wRet, wB, rsC, rE, rsN]
  refine lcM (List.range m) (fun k => D.int (mk rs.length (stF rs.length A lot full k) : Nat)) (fun k => lotD rs (stF rs.length A lot full k)) (fun P hP => ?_) (by rw [List.length_range]; exact Nat.le_trans m2 (by decide)) (fun k mk P hP => ?_) ?_
  · simp [h2]
    refine ⟨rs, A, h, lot, m, rfl, hh, ok, m2, ?_⟩
    simpa using hP
  · simp [h3]
    refine ⟨rs, A, h, _, rfl, hh, ok, ?_⟩
    simpa using hP
  · simp
    refine hr _ _ ?_
    unfold lotsD at q
    simpa using q
theorem kp_does_catch {S : Sps} {C : Nat} (h2 : S.may_lurk_by = spLurkBy C) : keeps [.fz, .fz] 2 (spCatch C) (w_does_catch S C) := by
  refine keeps_i fun ds Q E hs hl K hn hr => ?_
  obtain ⟨rs, A, h, lot, m, rfl, hh, ok, m1, m2, q⟩ := hs
  unfold w_does_catch
  simp [h2]
  refine ⟨rs, A, h, lot, m, rfl, hh, ok, m2, ?_⟩
  have g0 : (D.int 0).good = true := rfl
  have g1 : (D.lst ((List.range m).map fun k => D.int (mk rs.length (stF rs.length A lot full k) : Nat))).good = true := good_lst (n := 0) (fun d md => by
    obtain ⟨k, _, rfl⟩ := List.mem_map.mp md
    rfl) fun d md => by
    obtain ⟨k, _, rfl⟩ := List.mem_map.mp md
    exact Nat.le_refl _
  simp [g0, g1]
  refine hr _ _ ?_
  simpa [isCaught, Function.comp_def] using q
theorem kp_caught {S : Sps} {C : Nat} (h1 : S.check_looks = spCheckLooks C) (h2 : S.does_catch = spCatch C) : keeps [.fz, .fz] 2 (spCatch C) (w_caught S C) := by
  refine keeps_i fun ds Q E hs hl K hn hr => ?_
  obtain ⟨rs, A, h, lot, m, rfl, hh, ok, m1, m2, q⟩ := hs
  unfold w_caught
  refine seq_i fun N hN => ?_
  simp [h1]
  refine ⟨rs, A, h, lot, m, rfl, hh, ok, m1, m2, ?_⟩
  simp
  refine hN _ ?_
  simp [h2]
  refine ⟨rs, A, h, lot, m, rfl, hh, ok, m1, m2, ?_⟩
  simp
  refine hr _ _ ?_
  simpa using q
end K36

set_option Elab.async false
set_option linter.all false
set_option maxRecDepth 100000
set_option maxHeartbeats 1000000
namespace K36
open PySem L2 PySem.Spec PyProof.Rows Pu TL
def intD (i : Nat) : D := .int i
def ownD (rs : List Str) (ps : List (Nat × Nat)) : D := .dic [.inr "rooms", .inr "doors"] [.lst (rs.map .str), .lst (ps.map fun p => .tup [intD p.1, intD p.2])]
def PsOk (n : Nat) (ps : List (Nat × Nat)) : Prop := ps.Nodup ∧ (∀ p ∈ ps, p.1 < p.2 ∧ p.2 < n) ∧ ps.length ≤ 60
def nbOf (ps : List (Nat × Nat)) (v : Nat) : List Nat := ps.flatMap fun p => (if v = p.1 then [p.2] else []) ++ if v = p.2 then [p.1] else []
def nbD (n : Nat) (ps : List (Nat × Nat)) : D := .lst ((List.range n).map fun v => .lst ((nbOf ps v).map intD))
def numsD (n : Nat) (p : Nat → Bool) : D := .lst ((nums n p).map intD)
def lotsL (rs : List Str) (lot : Nat → Nat → Bool) (m : Nat) : D := .lst ((List.range m).map fun k => lotD rs (lot k))
theorem mem_nbOf {ps : List (Nat × Nat)} {v w : Nat} : w ∈ nbOf ps v ↔ adj ps v w = true := by
  unfold nbOf adj
  simp
  constructor
  · rintro ⟨a, b, m, h⟩
    rcases h with ⟨rfl, rfl⟩ | ⟨rfl, rfl⟩
    · exact .inl m
    · exact .inr m
  · rintro (m | m)
    · exact ⟨v, w, m, .inl ⟨rfl, rfl⟩⟩
    · exact ⟨w, v, m, .inr ⟨rfl, rfl⟩⟩
theorem len_nbOf (v : Nat) : ∀ ps : List (Nat × Nat), (nbOf ps v).length ≤ 2 * ps.length
  | [] => Nat.le_refl _
  | p :: ps => by
    have := len_nbOf v ps
    have e : nbOf (p :: ps) v = ((if v = p.1 then [p.2] else []) ++ if v = p.2 then [p.1] else []) ++ nbOf ps v := by
      unfold nbOf
      rw [List.flatMap_cons]
    have l1 : (if v = p.1 then [p.2] else []).length ≤ 1 := by split <;> simp
    have l2 : (if v = p.2 then [p.1] else []).length ≤ 1 := by split <;> simp
    rw [e, List.length_append, List.length_append, List.length_cons]
    omega
theorem nbOf_snoc {ps : List (Nat × Nat)} {p : Nat × Nat} {v : Nat} : nbOf (ps ++ [p]) v = nbOf ps v ++ ((if v = p.1 then [p.2] else []) ++ if v = p.2 then [p.1] else []) := by
  unfold nbOf
  simp [List.flatMap_append]
theorem set_mapG {α : Type} {n i : Nat} {f : Nat → α} {x : α} : ((List.range n).map f).set i x = (List.range n).map fun v => if v = i then x else f v := by
  refine List.ext_getElem? fun k => ?_
  rw [List.getElem?_set]
  by_cases hk : k < n
  · by_cases e : i = k
    · subst e; simp [hk]
    · have e' : ¬ k = i := fun h => e h.symm
      simp [hk, e, e']
  · have h2 : ((List.range n).map fun v => if v = i then x else f v)[k]? = none := List.getElem?_eq_none (by simp; omega)
    rw [h2]
    by_cases e : i = k
    · subst e; simp [hk]
    · rw [if_neg e]; exact List.getElem?_eq_none (by simp; omega)
theorem getR {n i : Nat} (h : i < n) : (List.range n)[i]? = some i := List.getElem?_range h
theorem lcoE {wi : WI} {v : Nat} {E : EX} {ρ : En} {Q : Sl → En → Prop} (its : List D) (hi : ∀ P : List D → En → Prop, P its ρ → wi E ρ P) (hl : its.length ≤ sizeLine)
    (hq : Q (.oo (List.replicate its.length [])) (backE ρ (ρ.set v .un) [v])) : wLcO wi (gN v) Pu.tYes (wLst vsN) [v] E ρ Q := by
  refine hi _ ⟨fun i acc ρ' => ρ' = ρ.set v .un ∧ acc = List.replicate i [], ⟨rfl, rfl⟩, ?_, ?_⟩
  · rintro i x acc ρ' e ⟨rfl, rfl⟩
    have h := (List.getElem?_eq_some_iff.mp e).1
    simp
    exact ⟨Nat.lt_of_lt_of_le h hl, by rw [List.replicate_succ']⟩
  · rintro acc ρ' ⟨rfl, rfl⟩
    exact hq
theorem good_int2 (i : Int) : (D.int i).good = true := rfl
@[simp] theorem k_rd : ¬ (("rooms" : Str) = "doors") := by decide +kernel
@[simp] theorem k_dr : ¬ (("doors" : Str) = "rooms") := by decide +kernel
def spLnear : DSp := fun ds Q _ => ∃ rs ps, ds = [ownD rs ps] ∧ RsOk rs ∧ PsOk rs.length ps ∧ Q (.fz (nbD rs.length ps)) [.non]
theorem kp__law_near {S : Sps} {C : Nat} : keeps [.fz] 5 spLnear (w__law_near S C) := by
  refine keeps_i fun ds Q E hs hl K hn hr => ?_
  obtain ⟨rs, ps, rfl, ok, po, q⟩ := hs
  unfold w__law_near
  refine seq_i fun N hN => ?_
  simp only [wSet]
  refine lcoE (rs.map D.str) (fun P h => by unfold ownD at h ⊢; simpa [kIx.kIxS] using h) (by rw [List.length_map]; exact len_sz ok.2.2.2) ?_
  simp
  refine hN _ ?_
  refine seq_i fun N hN => ?_
  refine forJ ps (fun p => D.tup [intD p.1, intD p.2]) (fun P h => by unfold ownD at h ⊢; simpa [kIx.kIxS] using h) (fun k a b c d => [.fz (ownD rs ps), .oo ((List.range rs.length).map fun v => (nbOf (ps.take k) v).map intD), a, b, c]) ⟨.un, .un, .un, .un, ?_⟩ (fun k hk a b c d N hN => ?_) (fun a b c d => hN _ ?_)
  · have e : List.replicate rs.length ([] : List D) = (List.range rs.length).map fun v => (nbOf (ps.take 0) v).map intD := by
      rw [show (fun v => (nbOf (ps.take 0) v).map intD) = fun _ => [] from rfl, List.map_const', List.length_range]
    rw [e]
  · obtain ⟨i1, i2⟩ := po.2.1 _ (List.getElem_mem hk)
    have ll : ∀ v, (nbOf (ps.take k) v).length ≤ 120 := fun v => by
      have := len_nbOf v (ps.take k)
      have := List.length_take_le k ps
      have := po.2.2
      rw [List.length_take] at *
      omega
    have ht : ps.take (k + 1) = ps.take k ++ [ps[k]] := by rw [List.take_add_one, List.getElem?_eq_getElem hk]; rfl
    revert i1 i2 ht
    generalize hij : ps[k] = ij
    obtain ⟨i, j⟩ := ij
    intro i1 i2 ht
    have i1 : i < j := i1
    have i2 : j < rs.length := i2
    have i3 : i < rs.length := Nat.lt_trans i1 i2
    have sz : 120 < sizeLine := by decide
    simp [intD, ixN_nat i3, ixN_nat i2, set_mapG, i2, i3, getR i2, getR i3]
    have ji : ¬ j = i := by omega
    rw [if_neg ji]
    refine ⟨Nat.lt_of_le_of_lt (ll i) sz, by rw [List.length_map]; exact Nat.lt_of_le_of_lt (ll j) sz, ?_⟩
    have e : ((List.range rs.length).map fun v => if v = j then (nbOf (ps.take k) j).map intD ++ [D.int (i : Nat)] else if v = i then (nbOf (ps.take k) i).map intD ++ [D.int (j : Nat)] else (nbOf (ps.take k) v).map intD) = (List.range rs.length).map fun v => (nbOf (ps.take (k + 1)) v).map intD := by
      refine List.map_congr_left fun v _ => ?_
      rw [ht, nbOf_snoc, List.map_append]
      by_cases v1 : v = j
      · subst v1
        simp [ji, intD]
      · by_cases v2 : v = i
        · subst v2
          simp [v1, intD]
        · simp [v1, v2]
    rw [e]
    exact hN _ _ _ .un
  · simp
    refine hr _ _ ?_
    simpa [nbD, Function.comp_def] using q
theorem good_nums (l : List Nat) : (D.lst (l.map intD)).good = true := good_lst (n := 0) (fun d m => by
  obtain ⟨i, _, rfl⟩ := List.mem_map.mp m
  rfl) fun d m => by
  obtain ⟨i, _, rfl⟩ := List.mem_map.mp m
  exact Nat.le_refl _
theorem nobs_nums : ∀ l : List Nat, nobs (l.map intD) = true
  | [] => rfl
  | _ :: l => nobs_nums l
theorem any_nums {i : Nat} {l : List Nat} : ((l.map intD).any fun z => beq z (.int i)) = decide (i ∈ l) := by
  have := any_beq (x := .int i) rfl (nobs_nums l)
  rw [Bool.eq_iff_iff, this, decide_eq_true_iff, List.mem_map]
  constructor
  · rintro ⟨j, m, e⟩
    unfold intD at e
    injection e with e
    have : j = i := by omega
    exact this ▸ m
  · exact fun m => ⟨i, m, rfl⟩
theorem nums_len (n : Nat) (p : Nat → Bool) : (nums n p).length ≤ n := by
  have := List.length_filter_le p (List.range n)
  rw [List.length_range] at this
  exact this
def spLlot : DSp := fun ds Q _ => ∃ rs ps p, ds = [ownD rs ps, numsD rs.length p] ∧ RsOk rs ∧ Q (.fz (lotD rs p)) [.non, .non]
theorem kp__law_lot {S : Sps} {C : Nat} : keeps [.fz, .fz] 4 spLlot (w__law_lot S C) := by
  refine keeps_i fun ds Q E hs hl K hn hr => ?_
  obtain ⟨rs, ps, p, rfl, ok, q⟩ := hs
  unfold w__law_lot
  simp only [wRet, wB, rsC, rE, rsN]
  refine lcB (List.range rs.length) (fun (i : Nat) => D.tup [.int i, .str (nm rs i)]) p (fun i => D.str (nm rs i)) (fun P h => by unfold ownD at h ⊢; simpa [kIx.kIxS, num_items] using h) (by rw [List.length_range]; exact len_sz ok.2.2.2) (fun i m P N h1 h2 => ?_) ?_
  · have hi := List.mem_range.mp m
    have g := good_nums (nums rs.length p)
    have e : decide (i ∈ nums rs.length p) = p i := by
      rw [Bool.eq_iff_iff, decide_eq_true_iff, mem_nums]
      simp [hi]
    rw [← e] at h1 h2
    unfold numsD at *
    simp [-List.any_map, g, good_int2, any_nums]
    by_cases hx : i ∈ nums rs.length p
    · simp [hx] at h1 ⊢
      exact h1
    · simp [hx] at h2 ⊢
      exact h2
  · simp
    refine hr _ _ ?_
    unfold lotD at q
    simpa [pick, nums, nm, Function.comp_def] using q
def spLcome : DSp := fun ds Q _ => ∃ n ps p, ds = [nbD n ps, numsD n p] ∧ n ≤ 16 ∧ PsOk n ps ∧ Q (.ow (numsD n (come n (adj ps) p))) [.non, .non]
def hops (n : Nat) (ps : List (Nat × Nat)) (i : Nat) : List Nat := if nbOf ps i = [] then [i] else nbOf ps i
theorem nbOf_nil {n : Nat} {ps : List (Nat × Nat)} (po : PsOk n ps) {i : Nat} : nbOf ps i = [] ↔ alone n (adj ps) i = true := by
  unfold alone
  rw [Bool.not_eq_true', List.any_eq_false]
  constructor
  · intro h j _ hj
    have := mem_nbOf.mpr hj
    rw [h] at this
    cases this
  · intro h
    cases e : nbOf ps i with
    | nil => rfl
    | cons j l =>
      have mj : j ∈ nbOf ps i := by rw [e]; exact List.mem_cons_self ..
      have aj := mem_nbOf.mp mj
      have hj : j < n := by
        unfold adj at aj
        simp at aj
        rcases aj with m | m
        · exact (po.2.1 _ m).2
        · exact Nat.lt_trans (po.2.1 _ m).1 (po.2.1 _ m).2
      exact absurd aj (h j (List.mem_range.mpr hj))
theorem hops_mem {n : Nat} {ps : List (Nat × Nat)} (po : PsOk n ps) {i j : Nat} : j ∈ hops n ps i ↔ hop n (adj ps) i j = true := by
  unfold hops hop
  by_cases h : nbOf ps i = []
  · rw [if_pos h, if_pos ((nbOf_nil po).mp h)]
    simp
  · have h2 : ¬ alone n (adj ps) i = true := fun e => h ((nbOf_nil po).mpr e)
    rw [if_neg h, if_neg h2]
    exact mem_nbOf
theorem hops_lt {n : Nat} {ps : List (Nat × Nat)} (po : PsOk n ps) {i j : Nat} (hi : i < n) (h : j ∈ hops n ps i) : j < n := by
  unfold hops at h
  split at h
  · simp at h; omega
  · have aj := mem_nbOf.mp h
    unfold adj at aj
    simp at aj
    rcases aj with m | m
    · exact (po.2.1 _ m).2
    · exact Nat.lt_trans (po.2.1 _ m).1 (po.2.1 _ m).2
theorem hops_len {n : Nat} {ps : List (Nat × Nat)} (po : PsOk n ps) (i : Nat) : (hops n ps i).length ≤ 120 := by
  unfold hops
  split
  · exact (by decide : 1 ≤ 120)
  · have := len_nbOf i ps
    have := po.2.2
    omega
theorem flat_len {α β : Type} (f : α → List β) (k : Nat) (h : ∀ a, (f a).length ≤ k) : ∀ l : List α, (l.flatMap f).length ≤ k * l.length
  | [] => Nat.le_refl _
  | a :: l => by
    have := flat_len f k h l
    have := h a
    rw [List.flatMap_cons, List.length_append, List.length_cons, Nat.mul_succ]
    omega
theorem beq_nil {l : List Nat} : beq (D.lst (l.map intD)) (D.lst []) = decide (l = []) := by
  cases l with
  | nil => rfl
  | cons a l => rfl
theorem intsOf_intD (l : List Nat) : intsOf (l.map intD) = some (l.map fun i : Nat => (i : Int)) := intsOf_m l fun i => (i : Int)
theorem kp__law_come {S : Sps} {C : Nat} : keeps [.fz, .fz] 4 spLcome (w__law_come S C) := by
  refine keeps_i fun ds Q E hs hl K hn hr => ?_
  obtain ⟨n, ps, p, rfl, hl, po, q⟩ := hs
  have nl := nums_len n p
  have fl : ∀ k, (((nums n p).take k).flatMap (hops n ps)).length ≤ 120 * 16 := fun k => by
    have h1 := flat_len (hops n ps) 120 (hops_len po) ((nums n p).take k)
    have h2 := List.length_take_le k (nums n p)
    have h3 : ((nums n p).take k).length ≤ 16 := by rw [List.length_take]; omega
    exact Nat.le_trans h1 (Nat.mul_le_mul_left _ h3)
  unfold w__law_come
  refine seq_i fun N hN => ?_
  simp
  refine hN _ ?_
  refine seq_i fun N hN => ?_
  refine forJ (nums n p) intD (fun P h => by unfold numsD at h ⊢; simpa using h) (fun k a b c d => [.fz (nbD n ps), .fz (numsD n p), .ow (.lst ((((nums n p).take k).flatMap (hops n ps)).map intD)), a]) ⟨.un, .un, .un, .un, ?_⟩ (fun k hk a b c d N hN => ?_) (fun a b c d => hN _ ?_)
  · rfl
  · have hi := mem_nums.mp (List.getElem_mem hk)
    have ht : (nums n p).take (k + 1) = (nums n p).take k ++ [(nums n p)[k]] := by rw [List.take_add_one, List.getElem?_eq_getElem hk]; rfl
    have g := good_nums (nbOf ps (nums n p)[k])
    have fk := fl k
    revert hi ht g
    generalize (nums n p)[k] = i
    intro hi ht g
    have hh := hops_len po i
    have ht2 : ((((nums n p).take (k + 1)).flatMap (hops n ps)).map intD) = ((((nums n p).take k).flatMap (hops n ps)).map intD) ++ (hops n ps i).map intD := by
      rw [ht, List.flatMap_append, List.map_append]
      simp
    have sz : 120 * 16 + 120 ≤ sizeLine := by decide
    have g0 : (D.lst []).good = true := rfl
    unfold nbD
    simp [kIx.kIxS, at_map hi.1, intD]
    refine ⟨g, ?_⟩
    rw [beq_nil]
    rw [List.length_flatMap] at fk
    rw [← List.map_take] at *
    have hlen : (nbOf ps i).length ≤ 120 := by
      have := len_nbOf i ps
      have := po.2.2
      omega
    by_cases hx : nbOf ps i = []
    · have e : hops n ps i = [i] := by unfold hops; rw [if_pos hx]
      rw [if_pos (decide_eq_true hx)]
      refine ⟨g0, by omega, ?_⟩
      have := hN (.fz (.int i)) .un .un .un
      rw [ht2, e] at this
      exact this
    · have e : hops n ps i = nbOf ps i := by unfold hops; rw [if_neg hx]
      rw [if_neg (by simp [hx])]
      refine ⟨g0, by omega, ?_⟩
      have := hN (.fz (.int i)) .un .un .un
      rw [ht2, e] at this
      exact this
  · simp [intsOf_intD]
    refine ⟨⟨?_, (List.range n).map fun i : Nat => (i : Int), ?_, ?_⟩, ?_⟩
    · have := fl (nums n p).length
      rw [List.take_length, List.length_flatMap] at this
      omega
    · simp; omega
    · rintro x j i hi hj rfl
      exact List.mem_map.mpr ⟨j, List.mem_range.mpr (hops_lt po (mem_nums.mp hi).1 hj), rfl⟩
    · intro out hp hm
      refine hr _ _ ?_
      have e : out = (nums n (come n (adj ps) p)).map fun i : Nat => (i : Int) := by
        refine rise_eq (r := fun a b : Int => a < b) (fun a => Int.lt_irrefl a) (fun a b c => Int.lt_trans) hp ?_ fun x => ?_
        · rw [List.pairwise_map]
          exact (nums_pair _ _).imp fun h => by omega
        · rw [hm x, List.mem_map]
          constructor
          · rintro ⟨j, ⟨i, hi, hj⟩, rfl⟩
            obtain ⟨h1, h2⟩ := mem_nums.mp hi
            refine ⟨j, mem_nums.mpr ⟨hops_lt po h1 hj, ?_⟩, rfl⟩
            unfold come
            rw [List.any_eq_true]
            exact ⟨i, List.mem_range.mpr h1, by rw [h2, (hops_mem po).mp hj]; rfl⟩
          · rintro ⟨j, hj, rfl⟩
            obtain ⟨h1, h2⟩ := mem_nums.mp hj
            unfold come at h2
            rw [List.any_eq_true] at h2
            obtain ⟨i, hi, h3⟩ := h2
            rw [Bool.and_eq_true] at h3
            exact ⟨j, ⟨i, mem_nums.mpr ⟨List.mem_range.mp hi, h3.1⟩, (hops_mem po).mpr h3.2⟩, rfl⟩
      rw [e, List.map_map]
      simp
      exact q
end K36

set_option Elab.async false
set_option linter.all false
set_option maxRecDepth 100000
set_option maxHeartbeats 1000000
namespace K36
open PySem L2 PySem.Spec PyProof.Rows Pu TL
theorem nums_filter (n : Nat) (p q : Nat → Bool) : (nums n p).filter q = nums n fun i => p i && q i := by
  unfold nums
  rw [List.filter_filter]
  refine List.filter_congr fun i _ => ?_
  cases p i <;> cases q i <;> rfl
theorem nums_full (n : Nat) : nums n full = List.range n := List.filter_eq_self.mpr fun _ _ => rfl
theorem nums_one {n s : Nat} (h : s < n) : nums n (fun i => decide (i = s)) = [s] := by
  refine rise_eq (r := fun a b : Nat => a < b) (fun a => Nat.lt_irrefl a) (fun a b c => Nat.lt_trans) (nums_pair _ _) (by simp) fun x => ?_
  rw [mem_nums]
  simp
  rintro rfl
  exact h
theorem at_rs {rs : List Str} {i : Nat} (h : i < rs.length) : atI (rs.map D.str) (i : Int) = some (.str (nm rs i)) := by
  rw [atN (by simpa using h)]
  simp [nm, h]
theorem good_lot' {rs : List Str} (ok : RsOk rs) (p : Nat → Bool) : (D.tup ((pick rs p).map D.str)).good = true := good_lot ok p
def spLmay : DSp := fun ds Q _ => ∃ rs ps lot m, ds = [ownD rs ps, lotsL rs lot m] ∧ RsOk rs ∧ PsOk rs.length ps ∧ m ≤ 200 ∧ Q (.fz (lotsD rs (stF rs.length (adj ps) lot full) m)) [.non, .non]
def spLgoes : DSp := fun ds Q _ => ∃ rs ps lot m s, ds = [ownD rs ps, lotsL rs lot m, intD s] ∧ s < rs.length ∧ RsOk rs ∧ PsOk rs.length ps ∧ m ≤ 200 ∧ Q (.fz (.lst ((List.range m).map fun k => numsD rs.length (stF rs.length (adj ps) lot (fun i => decide (i = s)) k)))) [.non, .non, .non]
/-- one lot taken from where they may be -/
theorem lc_not {rs : List Str} {ps : List (Nat × Nat)} (ok : RsOk rs) {p l : Nat → Bool} {a v : Nat} {E : EX} {ρ : En} {Q : Sl → En → Prop} (ρ1 : En) (w : WE) (hw : ∀ P : List D → En → Prop, P ((nums rs.length p).map intD) ρ1 → iSq w E ρ P) (h0 : (ρ1.set v .un)[0]? = some (.fz (ownD rs ps))) (h1 : (ρ1.set v .un)[a]? = some (.fz (lotD rs l))) (hv : v < ρ1.length) (v0 : v ≠ 0) (va : v ≠ a)
    (hq : Q (.ow (numsD rs.length fun i => p i && !l i)) (backE ρ1 (ρ1.set v .un) [v])) : wLc (iSq w) (gN v) (tV (wOp kNotIn (rE (wOp kIx (rE (wOp kIx (rN 0) (rE (wC (.str "rooms"))))) (rN v))) (rN a))) (wN v) [v] E ρ Q := by
  refine lcB' ρ1 (nums rs.length p) intD (fun i => !l i) intD hw (Nat.le_trans (nums_len _ _) (len_sz ok.2.2.2)) (fun i m P N h1' h2' => ?_) ?_
  · have hi := (mem_nums.mp m).1
    have g := good_lot' ok l
    have e := mem_pick (p := l) ok.2.1 hi
    have w0 : ((ρ1.set v .un).set v (.fz (intD i)))[0]? = some (.fz (ownD rs ps)) := by rw [List.getElem?_set_ne v0]; exact h0
    have wa : ((ρ1.set v .un).set v (.fz (intD i)))[a]? = some (.fz (lotD rs l)) := by rw [List.getElem?_set_ne va]; exact h1
    have wv : ((ρ1.set v .un).set v (.fz (intD i)))[v]? = some (.fz (intD i)) := by rw [List.getElem?_set_self (by simpa using hv)]
    have wv2 : ((ρ1.set v .un).set v (.fz (intD i))).set v .un = ρ1.set v .un := by simp
    show tV _ noEX ((ρ1.set v .un).set v (.fz (intD i))) _
    revert w0 wa wv wv2
    generalize (ρ1.set v .un).set v (.fz (intD i)) = σ
    intro w0 wa wv wv2
    simp only [wipeE] at h1' h2'
    simp [w0, wa, wv, wv2, ownD, kIx.kIxS, intD, lotD, at_rs hi, good_str (ok.1 _ (nm_mem hi)).ok, g, any_strs]
    cases hl : l i with
    | true => rw [if_neg (by rw [hl] at e; simpa using e)]; exact h2' (by rw [hl]; rfl)
    | false =>
      have e : nm rs i ∉ pick rs l := by rw [hl] at e; simpa using e
      have h : ∀ x, x ∈ pick rs l → ¬ x = nm rs i := fun x mx ex => e (ex ▸ mx)
      rw [if_pos h]
      exact h1' (by rw [hl]; rfl)
  · rw [nums_filter]
    exact hq
theorem kp__law_may_be {S : Sps} {C : Nat} (h1 : S._law_near = spLnear) (h2 : S._law_lot = spLlot) (h3 : S._law_come = spLcome) : keeps [.fz, .fz] 7 spLmay (w__law_may_be S C) := by
  refine keeps_i fun ds Q E hs hl K hn hr => ?_
  obtain ⟨rs, ps, lot, m, rfl, ok, po, hm, q⟩ := hs
  unfold w__law_may_be
  refine seq_i fun N hN => ?_
  simp [h1]
  refine ⟨rs, ps, rfl, ok, po, ?_⟩
  have b1 : (rs.length : Int) < 2 ^ 62 := by have := ok.2.2.2; omega
  simp [ownD, kIx.kIxS]
  refine ⟨RgOk.of_le (by decide) (by have := ok.2.2.2; omega) (by decide) (by omega), hN _ ?_⟩
  refine seq_i fun N hN => ?_
  refine forJ (List.range m) (fun k => lotD rs (lot k)) (fun P h => ?_) (fun k a b c d => [.fz (ownD rs ps), .fz (lotsL rs lot m), .fz (nbD rs.length ps), .ow (numsD rs.length (stT rs.length (adj ps) lot full k)), .ow (.lst ((List.range k).map fun k => lotD rs (stF rs.length (adj ps) lot full k))), a, b]) ⟨.un, .un, .un, .un, ?_⟩ (fun k hk a b c d N hN => ?_) (fun a b c d => hN _ ?_)
  · unfold lotsL at h ⊢
    simpa using h
  · rw [rangeD0]
    unfold numsD
    rw [show stT rs.length (adj ps) lot full 0 = full from rfl, nums_full]
    rfl
  · rw [List.getElem_range]
    have hk : k < m := by simpa using hk
    refine seq_i fun N' hN' => ?_
    simp only [wSet]
    refine lc_not (rs := rs) (ps := ps) ok (p := stT rs.length (adj ps) lot full k) (l := lot k) [.fz (ownD rs ps), .fz (lotsL rs lot m), .fz (nbD rs.length ps), .fz (numsD rs.length (stT rs.length (adj ps) lot full k)), .ow (.lst ((List.range k).map fun k => lotD rs (stF rs.length (adj ps) lot full k))), .fz (lotD rs (lot k)), b] _ (fun P h => by simpa [numsD] using h) rfl rfl (by simp) (by decide) (by decide) ?_
    simp
    refine hN' _ ?_
    refine seq_i fun N' hN' => ?_
    simp [h2]
    refine ⟨rs, ps, _, rfl, ok, ?_⟩
    simp
    refine ⟨Nat.lt_of_lt_of_le hk (Nat.le_trans hm (by decide)), hN' _ ?_⟩
    simp [h3]
    refine ⟨rs.length, ps, _, rfl, ok.2.2.2, po, ?_⟩
    simp
    have e : ((List.range k).map fun k => lotD rs (stF rs.length (adj ps) lot full k)) ++ [lotD rs fun i => stT rs.length (adj ps) lot full k i && !lot k i] = (List.range (k + 1)).map fun k => lotD rs (stF rs.length (adj ps) lot full k) := by
      rw [List.range_succ, List.map_append]
      rfl
    rw [e]
    exact hN _ _ .un .un
  · simp
    refine hr _ _ ?_
    unfold lotsD at q
    simpa using q
theorem kp__law_goes {S : Sps} {C : Nat} (h1 : S._law_near = spLnear) (h3 : S._law_come = spLcome) : keeps [.fz, .fz, .fz] 8 spLgoes (w__law_goes S C) := by
  refine keeps_i fun ds Q E hs hl K hn hr => ?_
  obtain ⟨rs, ps, lot, m, s, rfl, hs, ok, po, hm, q⟩ := hs
  unfold w__law_goes
  refine seq_i fun N hN => ?_
  simp [h1]
  refine ⟨rs, ps, rfl, ok, po, ?_⟩
  simp
  refine hN _ ?_
  refine seq_i fun N hN => ?_
  obtain ⟨go, hgo⟩ : ∃ go, go = fun k => numsD rs.length (stF rs.length (adj ps) lot (fun i => decide (i = s)) k) := ⟨_, rfl⟩
  refine forJ (List.range m) (fun k => lotD rs (lot k)) (fun P h => ?_) (fun k a b c d => [.fz (ownD rs ps), .fz (lotsL rs lot m), .fz (intD s), .fz (nbD rs.length ps), .ow (numsD rs.length (stT rs.length (adj ps) lot (fun i => decide (i = s)) k)), .ow (.lst ((List.range k).map go)), a, b]) ⟨.un, .un, .un, .un, ?_⟩ (fun k hk a b c d N hN => ?_) (fun a b c d => hN _ ?_)
  · unfold lotsL at h ⊢
    simpa using h
  · unfold numsD
    rw [show stT rs.length (adj ps) lot (fun i => decide (i = s)) 0 = (fun i => decide (i = s)) from rfl, nums_one hs]
    rfl
  · rw [List.getElem_range]
    have hk : k < m := by simpa using hk
    refine seq_i fun N' hN' => ?_
    simp only [wSet]
    refine lc_not (rs := rs) (ps := ps) ok (p := stT rs.length (adj ps) lot (fun i => decide (i = s)) k) (l := lot k) [.fz (ownD rs ps), .fz (lotsL rs lot m), .fz (intD s), .fz (nbD rs.length ps), .fz (numsD rs.length (stT rs.length (adj ps) lot (fun i => decide (i = s)) k)), .ow (.lst ((List.range k).map go)), .fz (lotD rs (lot k)), b] _ (fun P h => by simpa [numsD] using h) rfl rfl (by simp) (by decide) (by decide) ?_
    simp
    refine hN' _ ?_
    refine seq_i fun N' hN' => ?_
    simp
    refine ⟨Nat.lt_of_lt_of_le hk (Nat.le_trans hm (by decide)), hN' _ ?_⟩
    simp [h3]
    refine ⟨rs.length, ps, _, rfl, ok.2.2.2, po, ?_⟩
    simp
    have e : ((List.range k).map go) ++ [numsD rs.length fun i => stT rs.length (adj ps) lot (fun i => decide (i = s)) k i && !lot k i] = (List.range (k + 1)).map go := by
      rw [List.range_succ, List.map_append, hgo]
      rfl
    rw [e]
    exact hN _ _ .un .un
  · simp
    refine hr _ _ ?_
    rw [hgo]
    simpa using q
end K36

set_option Elab.async false
set_option linter.all false
set_option maxRecDepth 100000
set_option maxHeartbeats 1000000
namespace K36
open PySem L2 PySem.Spec PyProof.Rows Pu TL
def spPot : DSp := fun ds Q _ => ∃ ns place, ds = [.scr ns, .int place] ∧ 0 ≤ place ∧ place ≤ 10 ∧ ∀ p, PotOk 0 p → Q (.ow p) [.non, .non]
theorem cpw1 : CPw 10 60 := ⟨by decide, by decide +kernel⟩
theorem cpw2 : CPw 10 18 := ⟨by decide, by decide +kernel⟩
theorem cpw3 : CPw 1000000000000000000000000000000000000000000000000000000000000 5 := ⟨by decide, by decide +kernel⟩
theorem kp__law_pot {S : Sps} {C : Nat} : keeps [.fz, .fz] 5 spPot (w__law_pot S C) := by
  refine keeps_i fun ds Q E hs hl K hn hr => ?_
  obtain ⟨ns, place, rfl, p0, p1, q⟩ := hs
  unfold w__law_pot
  refine seq_i fun N hN => ?_
  have h1 : ∀ cell : Int, N [.fz (.scr ns), .fz (.int place), .fz (.int cell), .un, .un] := fun cell => by
    refine hN _ ?_
    refine seq_i fun N hN => ?_
    simp only [wSet, wOp, rE, wB, rsC, rsN, rN, wC]
    simp [cpw1, cpw2, cpw3]
    generalize hx : (if cell < 0 then -cell else cell) = x
    have x0 : 0 ≤ x := by rw [← hx]; split <;> omega
    generalize hb : (if 1000000000000000000 ≤ x then (1 : Int) else 0) = b
    have b0 : 0 ≤ b ∧ b ≤ 1 := by rw [← hb]; split <;> omega
    refine ⟨.inr ⟨by omega, by omega⟩, hN _ ?_⟩
    generalize ho : x % _ * b = o
    have o0 : 0 ≤ o := by
      rw [← ho]
      exact Int.mul_nonneg (Int.emod_nonneg _ (by decide)) b0.1
    refine seq_i fun N hN => ?_
    simp
    refine hN _ ?_
    have s0 : 0 ≤ cell % 2305843009213693951 := Int.emod_nonneg _ (by decide)
    have s1 : cell % 2305843009213693951 < 2305843009213693951 := Int.emod_lt_of_pos _ (by decide)
    revert s0 s1
    generalize cell % 2305843009213693951 = s
    intro s0 s1
    simp
    refine ⟨.inr ⟨by decide, by decide⟩, .inl ⟨by decide, by decide⟩, .inr ⟨by omega, by omega⟩, hr _ _ ?_⟩
    simp
    refine q _ ⟨_, _, _, rfl, o0, Int.emod_nonneg _ (by decide), ?_, by decide, by decide⟩
    have := Int.emod_lt_of_pos (s * 70853 + 9391 * place * place + 883) (show (0 : Int) < 2305843009213693921 by decide)
    omega
  simp [kIx.kIxS]
  by_cases hp : place < ns.length
  · rw [if_pos hp]
    obtain ⟨i, rfl⟩ := Int.eq_ofNat_of_zero_le p0
    have hi : i < ns.length := by omega
    rw [atN (by simpa using hi)]
    simp
    exact h1 _
  · rw [if_neg hp]
    refine ⟨.inl ⟨by decide, by decide⟩, h1 _⟩
def spCells : DSp := fun ds Q _ => ∃ ns, ds = [.scr ns, .int 2] ∧ ∀ m, 1 ≤ m → m ≤ 2 → Q (.ow (.lst ((List.range m).map intD))) [.non, .non]
theorem kp__law_cells {S : Sps} {C : Nat} : keeps [.fz, .fz] 2 spCells (w__law_cells S C) := by
  refine keeps_i fun ds Q E hs hl K hn hr => ?_
  obtain ⟨ns, rfl, q⟩ := hs
  unfold w__law_cells
  simp
  generalize hx : (if 1 < if (ns.length : Int) < 2 then (ns.length : Int) else 2 then if (ns.length : Int) < 2 then (ns.length : Int) else 2 else 1) = x
  have x0 : 1 ≤ x ∧ x ≤ 2 := by rw [← hx]; repeat' split <;> omega
  clear hx
  obtain ⟨m, rfl⟩ := Int.eq_ofNat_of_zero_le (show 0 ≤ x by omega)
  refine ⟨RgOk.of_le (by decide) (by omega) (by decide) (by omega), hr _ _ ?_⟩
  rw [rangeD0]
  simp
  exact q m (by omega) (by omega)
def spSome : DSp := fun ds Q _ => ∃ (p : D) (k : Nat) (l : List Str) (m : Nat), ds = [p, .lst (l.map .str), .int m] ∧ PotOk k p ∧ k + m < 2 ^ 30 ∧ m ≤ l.length ∧ l.length ≤ 1000 ∧ ∀ (out rest : List Str) (p' : D), (out ++ rest).Perm l → out.length = m → PotOk (k + m) p' → Q (.fz (.lst (out.map .str))) [p', .non, .non]
theorem seqI {n i : Nat} (h : i < n) : PySem.seqIndex? (i : Int) n = some i := by
  unfold PySem.seqIndex?
  have h0 : ¬ ((i : Int) < 0) := by omega
  have h1 : (i : Int) < (n : Int) := by omega
  simp [h0, h1]
theorem map_erase {α β : Type} (f : α → β) : ∀ (l : List α) (i : Nat), (l.map f).eraseIdx i = (l.eraseIdx i).map f
  | [], _ => rfl
  | _ :: _, 0 => rfl
  | a :: l, i + 1 => congrArg (f a :: ·) (map_erase f l i)
theorem erase_perm {α : Type} : ∀ {l : List α} {i : Nat} (h : i < l.length), (l[i] :: l.eraseIdx i).Perm l
  | _ :: _, 0, _ => List.Perm.refl _
  | a :: l, i + 1, h => by
    have h' : i < l.length := Nat.lt_of_succ_lt_succ h
    exact (List.Perm.swap a (l[i]'h') _).trans (List.Perm.cons a (erase_perm h'))
theorem kp__law_some {S : Sps} {C : Nat} (h1 : S._law_take = spTake) : keeps [.io, .fz, .fz] 6 spSome (w__law_some S C) := by
  refine keeps_i fun ds Q E hs hl K hn hr => ?_
  obtain ⟨p, k, l, m, rfl, pk, hk, hm, hl, q⟩ := hs
  unfold w__law_some
  refine seq_i fun N hN => ?_
  simp
  refine hN _ ?_
  refine seq_i fun N hN => ?_
  have b1 : (m : Int) < 2 ^ 62 := by omega
  refine forW (List.range m) intD (fun P h => by simp; rw [rangeD0]; exact ⟨b1, h⟩) (fun i ρ => ∃ (p' : D) (out rest : List Str) (c : Sl), ρ = [.io 0 p', .fz (.lst (l.map .str)), .fz (.int m), .ow (.lst (rest.map .str)), .ow (.lst (out.map .str)), c] ∧ PotOk (k + i) p' ∧ (out ++ rest).Perm l ∧ out.length = i) ⟨p, [], l, _, rfl, pk, List.Perm.refl _, rfl⟩ (fun i hi ρ N hW hN => ?_) (fun ρ hW => hN _ ?_)
  · obtain ⟨p', out, rest, c, rfl, pk', pm, ho⟩ := hW
    have hi : i < m := by simpa using hi
    have hlen := pm.length_eq
    rw [List.length_append, ho] at hlen
    simp [h1]
    refine ⟨p', k + i, rest.length, rfl, pk', by omega, by omega, by omega, fun r p2 r0 r1 pk2 => ?_⟩
    obtain ⟨j, rfl⟩ := Int.eq_ofNat_of_zero_le r0
    have hj : j < rest.length := by omega
    have b2 : (j : Int) < 2 ^ 63 := by omega
    simp [seqI hj, hj]
    refine ⟨b2, ?_, ?_⟩
    · rw [ho]; exact Nat.lt_of_lt_of_le hi (Nat.le_trans hm (Nat.le_trans hl (by decide)))
    · refine hN _ ⟨p2, out ++ [rest[j]], rest.eraseIdx j, .fz (intD i), ?_, by rw [← Nat.add_assoc]; exact pk2, ?_, by simp [ho]⟩
      · simp [map_erase]
      · rw [List.append_assoc]
        refine List.Perm.trans (List.Perm.append_left _ ?_) pm
        exact erase_perm hj
  · obtain ⟨p', out, rest, c, rfl, pk', pm, ho⟩ := hW
    rw [List.length_range] at pk' ho
    simp
    refine hr _ _ ?_
    simp
    exact q _ _ _ pm ho pk'
end K36

set_option Elab.async false
set_option linter.all false
set_option maxRecDepth 100000
set_option maxHeartbeats 1000000
namespace K36
open PySem L2 PySem.Spec PyProof.Rows Pu TL
def okB (x : Str) : Bool := decide (0 < (tl x).length) && decide ((tl x).length ≤ 8) && (match tl x with
  | c :: _ => decide (97 ≤ c) && decide (c ≤ 122)
  | [] => false) && nameSigns (tl x)
theorem ok_of {x : Str} (h : okB x = true) : OkName x := by
  unfold okB at h
  simp only [Bool.and_eq_true, decide_eq_true_eq] at h
  obtain ⟨⟨⟨h1, h2⟩, h3⟩, h4⟩ := h
  refine ⟨h1, h2, ?_, h4⟩
  revert h3
  cases tl x with
  | nil => intro h; cases h
  | cons c r => intro h; simp at h; exact ⟨c, r, rfl, h.1, h.2⟩
def numS (c : Str) (i : Nat) : Str := c ++ (toString (i : Int) : String)
def base6 : List Str := ["a", "b", "c", "x9", "room", "door"]
def poolN : List Str := base6 ++ (List.range 20).map (numS "n")
theorem poolN_ok : poolN.all okB = true := by decide +kernel
theorem poolN_nd : poolN.Nodup := by decide +kernel
theorem poolN_len : poolN.length = 26 := by decide +kernel
def signs : Str := "abcdefghijklmnopqrstuvwxyz0123456789"
def chS (c : Nat) : Str := ⟨#[c]⟩
theorem sg_all : nameSigns (tl signs) = true := by decide +kernel
theorem sg_len : (tl signs).length = 36 := by decide +kernel
def spNames : DSp := fun ds Q _ => ∃ (p : D) (k n : Nat), ds = [p, .int n] ∧ PotOk k p ∧ k + 100 < 2 ^ 30 ∧ 1 ≤ n ∧ n ≤ 16 ∧ ∀ (rs : List Str) (p' : D) (s : Sl), rs.length = n → RsOk rs → PotOk (k + 100) p' → (s = .fz (.lst (rs.map .str)) ∨ s = .ow (.lst (rs.map .str))) → Q s [p', .non]
theorem at_nat {α : Type} {l : List α} {i : Nat} (h : i < l.length) : atI l (i : Int) = some l[i] := by simp [atI, ixN, h]
theorem joinL_one : ∀ cs : List Nat, joinL [] (cs.map fun c => [c]) = cs
  | [] => rfl
  | [c] => rfl
  | c :: d :: r => by
    show [c] ++ ([] ++ joinL [] ((d :: r).map fun c => [c])) = _
    rw [joinL_one (d :: r)]
    rfl
theorem cut_last (l : List D) : Pu.cutD l none (some (-1)) = l.dropLast := by
  have e : HT.sIx l.length l.length (some (-1)) = l.length - 1 := by
    show (if (-1 : Int) < 0 then ((-1 : Int) + (l.length : Int)).toNat else min (-1 : Int).toNat l.length) = _
    rw [if_pos (by decide)]
    omega
  unfold Pu.cutD
  rw [e, show HT.sIx l.length 0 none = 0 from rfl, List.drop_zero, Nat.sub_zero, List.dropLast_eq_take]
theorem kp__law_names {S : Sps} {C : Nat} (h1 : S._law_take = spTake) (h2 : S._law_some = spSome) : keeps [.io, .fz] 7 spNames (w__law_names S C) := by
  refine keeps_i fun ds Q E hs hl K hn hr => ?_
  obtain ⟨p, k, n, rfl, pk, hk, n1, n2, q⟩ := hs
  unfold w__law_names
  refine seq_i fun N hN => ?_
  simp
  refine hN _ ?_
  refine seq_i fun N hN => ?_
  simp only [wSet, wCall, asApp, asS, asV, wOp, rE, wLst, vsC, vsN, wC, rN, asN]
  simp
  refine lcM (List.range 20) intD (fun i => D.str (numS "n" i)) (fun P h => by simp; exact h) (by decide) (fun i m P h => ?_) ?_
  · have hi : i < 20 := List.mem_range.mp m
    simp at h
    simp [intD]
    have l1 : ∀ i, i < 20 → i.log2 < 1920 := by decide +kernel
    have l2 : ∀ i : Nat, i < 20 → (Str.ofString "n").length + (Str.ofString (i : Int).repr).length ≤ sizeLine := by decide +kernel
    exact ⟨l1 i hi, l2 i hi, h⟩
  · simp [h2]
    refine ⟨by decide, p, k, poolN, n, ?_, pk, by omega, by rw [poolN_len]; omega, by rw [poolN_len]; decide, fun out rest p1 pm ho pk1 => ?_⟩
    · unfold poolN
      rw [List.map_append, List.map_map]
      rfl
    have oko : ∀ x ∈ out, OkName x := fun x m => ok_of (List.all_eq_true.mp poolN_ok x (pm.mem_iff.mp (List.mem_append_left _ m)))
    have ndo : out.Nodup := (List.nodup_append.mp (pm.nodup_iff.mpr poolN_nd)).1
    simp
    refine hN _ ?_
    refine seq_i fun N hN => ?_
    simp only [wSet, wOp, rE, wC, rN, wMt, rsC, rsN]
    simp [h1]
    refine wLc_eq ?_
    simp
    refine ⟨p1, k + n, 7, rfl, pk1, by omega, by decide, by decide, fun r p2 r0 r1 pk2 => ?_⟩
    obtain ⟨r, rfl⟩ := Int.eq_ofNat_of_zero_le r0
    have hr7 : r < 7 := by omega
    have b1 : (r : Int) < 2 ^ 62 := by omega
    simp
    refine ⟨b1, ?_⟩
    rw [rangeD0]
    refine lcW' _ (List.range r) intD (fun P h => h) (fun i acc ρ' => ∃ (p' : D) (cs : List Nat), ρ' = [.io 0 p', .fz (.int n), .fz (.str signs), .fz (.lst (out.map .str)), .un, .un, .un] ∧ PotOk (k + n + 1 + i) p' ∧ acc = cs.map (fun c => D.str (chS c)) ∧ cs.length = i ∧ ∀ c ∈ cs, c ∈ tl signs) ⟨p2, [], rfl, pk2, rfl, rfl, by simp⟩ (fun i hi acc ρ' P hW hP => ?_) (fun acc ρ' hW => ?_)
    · obtain ⟨p', cs, rfl, pk', rfl, hc, hs⟩ := hW
      have hi : i < r := by simpa using hi
      simp
      refine ⟨p', k + n + 1 + i, 36, rfl, pk', by omega, by decide, by decide, fun x p3 x0 x1 pk3 => ?_⟩
      obtain ⟨x, rfl⟩ := Int.eq_ofNat_of_zero_le x0
      have hx : x < signs.cps.toList.length := by
        have : signs.cps.toList.length = 36 := sg_len
        omega
      simp [kIx.kIxS, at_nat hx]
      refine ⟨by decide, hP _ _ ?_ ⟨p3, cs ++ [signs.cps[x]], ?_, by rw [← Nat.add_assoc]; exact pk3, ?_, by simp [hc], ?_⟩⟩
      · rw [List.length_map, hc]
        exact Nat.lt_trans hi (Nat.lt_trans hr7 (by decide))
      · simp
      · rw [List.map_append]; rfl
      · intro c m
        rcases List.mem_append.mp m with m | m
        · exact hs c m
        · rw [List.mem_singleton.mp m]
          exact Array.getElem_mem_toList ..
    · obtain ⟨p', cs, rfl, pk', rfl, hc, hs⟩ := hW
      rw [List.length_range] at hc pk'
      have tj : tl (Txt.join "" (cs.map chS)) = cs := by
        rw [join_eq, tl_join, List.map_map]
        rw [show tl ("" : Str) = [] by decide +kernel]
        rw [show (tl ∘ chS) = fun c => [c] from rfl, joinL_one]
      have tw : tl ("of" ++ Txt.join "" (cs.map chS)) = [111, 102] ++ cs := by
        rw [tl_append, tj]
        rw [show tl ("of" : Str) = [111, 102] by decide +kernel]
      have okw : OkName ("of" ++ Txt.join "" (cs.map chS)) := by
        refine ⟨by rw [tw]; simp, by rw [tw]; simp; omega, ⟨111, 102 :: cs, tw, by decide, by decide⟩, ?_⟩
        rw [tw]
        refine List.all_eq_true.mpr fun c m => ?_
        rcases List.mem_append.mp m with m | m
        · have : ([111, 102] : List Nat).all (fun c => (decide (97 ≤ c) && decide (c ≤ 122)) || (decide (48 ≤ c) && decide (c ≤ 57))) = true := by decide
          exact List.all_eq_true.mp this c m
        · exact List.all_eq_true.mp sg_all c (hs c m)
      have lj : (Txt.join "" (cs.map chS)).length ≤ 16 := by
        have : (tl (Txt.join "" (cs.map chS))).length ≤ 16 := by rw [tj]; omega
        exact this
      have l1 : (cs.map ((fun x : Str => x.length) ∘ chS)).sum = cs.length := by
        clear tj tw okw lj hc hs
        induction cs with
        | nil => rfl
        | cons c cs ih => rw [List.map_cons, List.sum_cons, ih, List.length_cons, show ((fun x : Str => x.length) ∘ chS) c = 1 from rfl, Nat.add_comm]
      have l2 : (Str.ofString "").length = 0 := by decide +kernel
      have l3 : (Str.ofString "of").length = 2 := by decide +kernel
      have l4 : 100 < sizeLine := by decide
      simp [strsOf_m]
      revert okw lj
      generalize hj : Txt.join (Str.ofString "") (cs.map chS) = jn
      intro okw lj
      refine ⟨by rw [l1, l2]; omega, by rw [l3]; omega, ?_⟩
      revert okw
      generalize Str.ofString "of" ++ jn = word
      intro okw
      refine hN _ ?_
      have gw := good_str okw.ok
      have gn : (D.lst (out.map D.str)).good = true := good_lst (n := 0) (fun d m => by
        obtain ⟨x, mx, rfl⟩ := List.mem_map.mp m
        exact (oko x mx).ok) fun d m => by rw [strs_py out d m]; exact Nat.le_refl _
      simp [h1]
      refine ⟨p', k + n + 1 + r, 3, rfl, pk', by omega, by decide, by decide, fun x p3 x0 x1 pk3 => ?_⟩
      have q1 := q out p3 (.fz (.lst (out.map .str))) ho ⟨oko, ndo, by omega, by omega⟩ (pk3.le (by omega)) (.inl rfl)
      simp
      by_cases hx : 0 < x
      · rw [if_pos hx]
        refine hr _ _ ?_
        simpa using q1
      · rw [if_neg hx]
        simp [gw, gn, any_strs]
        have ec : (∃ x, x ∈ List.map D.str out ∧ beq x (D.str word) = true) ↔ word ∈ out := by
          rw [← List.any_eq_true, any_strs, decide_eq_true_iff]
        by_cases hm : word ∈ out
        · rw [if_pos (ec.mpr hm)]
          refine hr _ _ ?_
          simpa using q1
        · rw [if_neg (fun h => hm (ec.mp h)), cut_last, ← List.map_dropLast]
          refine ⟨by simp; omega, hr _ _ ?_⟩
          have e : (out.dropLast.map D.str ++ [D.str word]) = (out.dropLast ++ [word]).map D.str := by rw [List.map_append]; rfl
          have sub : ∀ x ∈ out.dropLast, x ∈ out := fun x m => List.dropLast_subset _ m
          rw [e]
          have q2 := q (out.dropLast ++ [word]) p3 (.ow (.lst ((out.dropLast ++ [word]).map .str))) (by simp; omega) ⟨fun x m => ?_, ?_, by simp, by simp; omega⟩ (pk3.le (by omega)) (.inr rfl)
          · simpa using q2
          · rcases List.mem_append.mp m with m | m
            · exact oko x (sub x m)
            · rw [List.mem_singleton.mp m]; exact okw
          · rw [List.nodup_append]
            refine ⟨ndo.sublist (List.dropLast_sublist _), by simp, fun x m y m2 => ?_⟩
            rw [List.mem_singleton.mp m2]
            rintro rfl
            exact hm (sub _ m)
end K36

set_option Elab.async false
set_option linter.all false
set_option maxRecDepth 100000
set_option maxHeartbeats 2000000
namespace K36
open PySem L2 PySem.Spec PyProof.Rows Pu TL
def prT (p : Nat × Nat) : D := .tup [intD p.1, intD p.2]
def PG (n : Nat) (prs : List (Nat × Nat)) : Prop := ∀ p ∈ prs, p.1 < p.2 ∧ p.2 < n
theorem PG.snoc {n : Nat} {prs : List (Nat × Nat)} (h : PG n prs) {a b : Nat} (h1 : a < b) (h2 : b < n) : PG n (prs ++ [(a, b)]) := fun p m => by
  rcases List.mem_append.mp m with m | m
  · exact h p m
  · rw [List.mem_singleton.mp m]; exact ⟨h1, h2⟩
theorem cut_to (l : List D) (k : Nat) : Pu.cutD l none (some (k : Int)) = l.take k := by
  unfold Pu.cutD
  rw [HT.sIx_nat, show HT.sIx l.length 0 none = 0 from rfl, List.drop_zero, Nat.sub_zero]
  by_cases h : k ≤ l.length
  · rw [Nat.min_eq_left h]
  · rw [Nat.min_eq_right (by omega), List.take_of_length_le (Nat.le_refl _), List.take_of_length_le (by omega)]
def spDraw : DSp := fun ds Q _ => ∃ (p : D) (k n : Nat), ds = [p, .int n] ∧ PotOk k p ∧ k + 1000 < 2 ^ 30 ∧ 1 ≤ n ∧ n ≤ 16 ∧ ∀ (rs : List Str) (ps : List (Nat × Nat)) (p' : D), rs.length = n → RsOk rs → PsOk n ps → PotOk (k + 1000) p' → Q (.ow (ownD rs ps)) [p', .non]
theorem num_prs (ps : List (Nat × Nat)) : numbered 0 (ps.map prT) = (List.range ps.length).map fun i => D.tup [intD i, prT (ps[i]?.getD default)] := by
  rw [numbered_eq, List.length_map]
  refine List.map_congr_left fun i m => ?_
  have hi := List.mem_range.mp m
  rw [List.getElem?_map, List.getElem?_eq_getElem hi, Nat.zero_add]
  rfl
theorem good_prs (l : List (Nat × Nat)) : (D.lst (l.map prT)).good = true := good_lst (n := 1) (fun d m => by
  obtain ⟨x, _, rfl⟩ := List.mem_map.mp m
  rfl) fun d m => by
  obtain ⟨x, _, rfl⟩ := List.mem_map.mp m
  exact Nat.le_refl _
theorem prT_inj {a b : Nat × Nat} (h : prT a = prT b) : a = b := by
  unfold prT intD at h
  simp at h
  exact Prod.ext (by omega) (by omega)
theorem perm_map {α : Type} {f : α → D} {g : D → α} (h : ∀ a, g (f a) = a) {L : List D} {l : List α} (p : L.Perm (l.map f)) : ∃ l' : List α, L = l'.map f ∧ l'.Perm l := by
  refine ⟨L.map g, ?_, ?_⟩
  · rw [List.map_map]
    have : ∀ d ∈ L, (f ∘ g) d = id d := fun d m => by
      obtain ⟨a, _, rfl⟩ := List.mem_map.mp (p.mem_iff.mp m)
      show f (g (f a)) = f a
      rw [h]
    rw [List.map_congr_left this, List.map_id]
  · have := p.map g
    rw [List.map_map] at this
    rw [show (l.map (g ∘ f)) = l by rw [show g ∘ f = id from funext h, List.map_id]] at this
    exact this
theorem ite_i {c : Prop} [Decidable c] {A B : Prop} (a : A) (b : B) : if c then A else B := by split <;> assumption
theorem kp__law_house {S : Sps} {C : Nat} (h1 : S._law_take = spTake) (h2 : S._law_names = spNames) : keeps [.io, .fz] 10 spDraw (w__law_house S C) := by
  refine keeps_i fun ds Q E hs hl K hn hr => ?_
  obtain ⟨p, k, n, rfl, pk, hk, n1, n2, q⟩ := hs
  unfold w__law_house
  refine seq_i fun N hN => ?_
  simp [h1, h2]
  refine ⟨p, k, n, rfl, pk, by omega, n1, n2, fun rs p1 s2 hlen ok pk1 hs2 => ?_⟩
  have main : ∀ w p', PotOk (k + 101) p' → N [.io 0 p', .fz (.int n), s2, .fz (.int w), .ow (.lst []), .un, .un, .un, .un, .un] := by
    intro w p2 pk2
    refine hN _ ?_
    refine seq_i fun N hN => ?_
    refine forW (List.range (n - 1)) (fun i => D.int (1 + (i : Nat))) (fun P h => ?_) (fun i ρ => ∃ (p' : D) (prs : List (Nat × Nat)) (b c d : Sl), ρ = [.io 0 p', .fz (.int n), s2, .fz (.int w), .ow (.lst (prs.map prT)), b, c, d, .un, .un] ∧ PotOk (k + 101 + 20 * i) p' ∧ PG n prs ∧ prs.length ≤ 20 * i) ⟨p2, [], _, _, _, rfl, pk2, by simp [PG], by simp⟩ (fun i hi ρ N hW hN => ?_) (fun ρ hW => hN _ ?_)
    · simp
      have b1 : (n : Int) < 2 ^ 62 := by omega
      refine ⟨b1, ?_⟩
      have e : rangeD 1 n = (List.range (n - 1)).map fun i => D.int (1 + (i : Nat)) := by
        unfold rangeD
        rw [show ((n : Int) - 1).toNat = n - 1 by omega]
      rw [e]
      exact h
    · obtain ⟨p', prs, b, c, d, rfl, pk', pg, hpl⟩ := hW
      have hi : i < n - 1 := by simpa using hi
      rw [List.getElem_range]
      obtain ⟨a, ha⟩ : ∃ a : Nat, a = 1 + i := ⟨_, rfl⟩
      have ea : (1 + (i : Int)) = (a : Int) := by omega
      rw [ea]
      simp only [gN, List.set_cons_succ, List.set_cons_zero]
      refine seq_i fun N' hN' => ?_
      have key : ∀ p' (prs : List (Nat × Nat)), PotOk (k + 101 + 20 * i + 2) p' → PG n prs → prs.length ≤ 20 * i + 1 → N' [.io 0 p', .fz (.int n), s2, .fz (.int w), .ow (.lst (prs.map prT)), .fz (.int a), c, d, .un, .un] := by
        intro p' prs pk' pg hpl
        refine hN' _ ?_
        have b1 : (a : Int) < 2 ^ 62 := by omega
        refine forW (List.range a) intD (fun P h => by simp; rw [rangeD0]; exact ⟨b1, h⟩) (fun j ρ => ∃ (p' : D) (prs : List (Nat × Nat)) (c d : Sl), ρ = [.io 0 p', .fz (.int n), s2, .fz (.int w), .ow (.lst (prs.map prT)), .fz (.int a), c, d, .un, .un] ∧ PotOk (k + 101 + 20 * i + 2 + j) p' ∧ PG n prs ∧ prs.length ≤ 20 * i + 1 + j) ⟨p', prs, _, _, rfl, pk', pg, hpl⟩ (fun j hj ρ N hW hN2 => ?_) (fun ρ hW => ?_)
        · obtain ⟨p', prs, c, d, rfl, pk', pg, hpl⟩ := hW
          have hj : j < a := by simpa using hj
          rw [List.getElem_range]
          simp only [gN, List.set_cons_succ, List.set_cons_zero]
          refine seq_i fun N3 hN3 => ?_
          simp [h1]
          refine ⟨p', _, 4, rfl, pk', by omega, by decide, by decide, fun t p3 _ _ pk3 => ?_⟩
          simp
          refine hN3 _ ?_
          have app : N [.io 0 p3, .fz (.int n), s2, .fz (.int w), .ow (.lst (prs.map prT ++ [.tup [.int j, .int a]])), .fz (.int a), .fz (.int j), .fz (.int t), .un, .un] := by
            refine hN2 _ ⟨p3, prs ++ [(j, a)], .fz (.int j), .fz (.int t), ?_, pk3, pg.snoc hj (by omega), by simp; omega⟩
            rw [List.map_append]
            rfl
          have same : N [.io 0 p3, .fz (.int n), s2, .fz (.int w), .ow (.lst (prs.map prT)), .fz (.int a), .fz (.int j), .fz (.int t), .un, .un] := hN2 _ ⟨p3, prs, _, _, rfl, pk3, pg, by omega⟩
          have gb : ∀ b, (D.bl b).good = true := fun _ => rfl
          have sz : prs.length < sizeLine := Nat.lt_of_le_of_lt hpl (Nat.lt_of_lt_of_le (show 20 * i + 1 + j < 1000 by omega) (by decide))
          have cd : CDiv n 2 := ⟨by decide, by decide⟩
          simp [intD, gb, sz, cd]
          repeat' first
            | exact app
            | exact same
            | refine ite_i ?_ ?_
        · obtain ⟨p', prs, c, d, rfl, pk', pg, hpl⟩ := hW
          rw [List.length_range] at hpl pk'
          exact hN _ ⟨p', prs, _, _, _, rfl, pk'.le (by omega), pg, by omega⟩
      by_cases hw : w = 1
      · subst hw
        simp [h1]
        refine ⟨p', _, 8, rfl, pk', by omega, by decide, by decide, fun t p3 _ _ pk3 => ?_⟩
        simp
        by_cases ht : 0 < t
        · rw [if_pos ht]
          refine ⟨p3, _, a, rfl, pk3, by omega, by omega, by omega, fun x p4 x0 x1 pk4 => ?_⟩
          obtain ⟨x, rfl⟩ := Int.eq_ofNat_of_zero_le x0
          simp
          have sz : prs.length < sizeLine := Nat.lt_of_le_of_lt hpl (Nat.lt_of_lt_of_le (show 20 * i < 1000 by omega) (by decide))
          refine ⟨sz, ?_⟩
          have := key p4 (prs ++ [(x, a)]) pk4 (pg.snoc (by omega) (by omega)) (by simp; omega)
          rw [List.map_append] at this
          exact this
        · rw [if_neg ht]
          exact key _ _ (pk3.le (by omega)) pg (by omega)
      · simp [hw]
        exact key _ _ (pk'.le (by omega)) pg (by omega)
    · obtain ⟨p', prs, b, c, d, rfl, pk', pg, hpl⟩ := hW
      rw [List.length_range] at hpl pk'
      refine seq_i fun N hN => ?_
      have c60 : Pu.cutD (prs.map prT) none (some 60) = (prs.take 60).map prT := by rw [show (60 : Int) = ((60 : Nat) : Int) from rfl, cut_to, List.map_take]
      simp [c60]
      refine hN _ ?_
      obtain ⟨ps, hps⟩ : ∃ ps, ps = prs.take 60 := ⟨_, rfl⟩
      have pl : ps.length ≤ 60 := by rw [hps, List.length_take]; omega
      have pg : PG n ps := fun x m => pg x (List.mem_of_mem_take (hps ▸ m))
      rw [← List.map_take, ← hps]
      have szl : ps.length ≤ sizeLine := Nat.le_trans pl (by decide)
      refine seq_i fun N hN => ?_
      simp only [wSet]
      refine lcB' [.io 0 p', .fz (.int n), s2, .fz (.int w), .fz (.lst (ps.map prT)), b, c, d, .un, .un] (List.range ps.length) (fun i => .tup [intD i, prT (ps[i]?.getD default)]) (fun i => decide (ps[i]?.getD default ∉ ps.take i)) (fun i => prT (ps[i]?.getD default)) (fun P h => ?_) (by rw [List.length_range]; exact szl) (fun i m P N h1 h2 => ?_) ?_
      · simp [num_prs]
        exact h
      · simp at h1 h2
        simp [intD, cut_to]
        rw [← List.map_take]
        refine ⟨rfl, good_prs _, ?_⟩
        have ec : (∀ x ∈ (ps.take i).map prT, beq x (prT (ps[i]?.getD default)) = false) ↔ ps[i]?.getD default ∉ ps.take i := by
          constructor
          · intro h mm
            have := h _ (List.mem_map.mpr ⟨_, mm, rfl⟩)
            rw [beq_same (show (prT _).nob = true from rfl)] at this
            cases this
          · intro h x mx
            obtain ⟨y, my, rfl⟩ := List.mem_map.mp mx
            rw [Bool.eq_false_iff]
            intro e
            have := prT_inj ((beq_iff _ _ (show (prT _).nob = true from rfl) (show (prT _).nob = true from rfl)).mp e)
            exact h (this ▸ my)
        by_cases hm : ps[i]?.getD default ∈ ps.take i
        · rw [if_neg fun h => ec.mp h hm]
          exact h2 hm
        · rw [if_pos (ec.mpr hm)]
          exact h1 hm
      · obtain ⟨qs, hqs⟩ : ∃ qs, qs = ((List.range ps.length).filter fun i => decide (ps[i]?.getD default ∉ ps.take i)).map fun i => ps[i]?.getD default := ⟨_, rfl⟩
        have eqs : ((List.range ps.length).filter fun i => decide (ps[i]?.getD default ∉ ps.take i)).map (fun i => prT (ps[i]?.getD default)) = qs.map prT := by
          rw [hqs, List.map_map]; rfl
        rw [eqs]
        have ql : qs.length ≤ 60 := by
          rw [hqs, List.length_map]
          have := List.length_filter_le (fun i => decide (ps[i]?.getD default ∉ ps.take i)) (List.range ps.length)
          rw [List.length_range] at this
          omega
        have qg : PG n qs := fun x m => by
          rw [hqs] at m
          obtain ⟨i, mi, rfl⟩ := List.mem_map.mp m
          have hi := List.mem_range.mp (List.mem_filter.mp mi).1
          rw [List.getElem?_eq_getElem hi]
          exact pg _ (List.getElem_mem hi)
        have qn : qs.Nodup := by
          rw [hqs]
          unfold List.Nodup
          rw [List.pairwise_map]
          have pw := (List.pairwise_lt_range (n := ps.length)).filter fun i => decide (ps[i]?.getD default ∉ ps.take i)
          refine List.Pairwise.imp_of_mem (fun {i j} mi mj hij e => ?_) pw
          have hi := List.mem_range.mp (List.mem_filter.mp mi).1
          have hj := (List.mem_filter.mp mj).2
          rw [decide_eq_true_iff] at hj
          apply hj
          rw [← e, List.getElem?_eq_getElem hi]
          exact List.mem_take_iff_getElem.mpr ⟨i, by omega, rfl⟩
        clear hqs eqs
        simp
        refine hN _ ?_
        have srt : PySem.W.AllAlike ((qs.map prT).map D.py) ∧ PySem.W.Sortable ((qs.map prT).map D.py) := by
          constructor
          · intro a ma b mb
            obtain ⟨a', ma', rfl⟩ := List.mem_map.mp ma
            obtain ⟨b', mb', rfl⟩ := List.mem_map.mp mb
            obtain ⟨x, _, rfl⟩ := List.mem_map.mp ma'
            obtain ⟨y, _, rfl⟩ := List.mem_map.mp mb'
            rfl
          · refine .inl fun a ma => ?_
            obtain ⟨a', ma', rfl⟩ := List.mem_map.mp ma
            obtain ⟨x, _, rfl⟩ := List.mem_map.mp ma'
            exact ⟨_, _, rfl⟩
        rw [List.map_map] at srt
        obtain ⟨ts, hts, tp⟩ := perm_map (g := fun d => match d with | .tup [.int i, .int j] => (i.toNat, j.toNat) | _ => default) (f := prT) (fun p => rfl) (List.mergeSort_perm (qs.map prT) leD)
        have po : PsOk n ts := ⟨tp.nodup_iff.mpr qn, fun x m => qg x (tp.mem_iff.mp m), by rw [tp.length_eq]; exact ql⟩
        have q1 := q rs ts p' hlen ok po (pk'.le (by omega))
        have plq : plains (qs.map prT) = true := plains_of fun d m => by
          obtain ⟨x, _, rfl⟩ := List.mem_map.mp m
          rfl
        have dpq : ∀ b ∈ qs.map prT, b.py.depth ≤ 64 := fun d m => by
          obtain ⟨x, _, rfl⟩ := List.mem_map.mp m
          exact (by decide : 1 ≤ 64)
        have slq : (qs.map prT).length ≤ sizeLine := by rw [List.length_map]; exact Nat.le_trans ql (by decide)
        have fin : K.rt (.ow (ownD rs ts)) [.io 0 p', .fz (.int n), .fz (.lst (rs.map .str)), .fz (.int w), .fz (.lst (ps.map prT)), b.keep, c, d, .ow (.lst (qs.map prT)), .un] := by
          refine hr _ _ ?_
          simpa using q1
        rcases hs2 with rfl | rfl
        · simp
          refine ⟨plq, srt.1, srt.2, by simpa using slq, fun b x y m e => dpq b (List.mem_map.mpr ⟨_, m, e⟩), ?_⟩
          rw [hts]
          exact fin
        · simp
          refine ⟨plq, srt.1, srt.2, by simpa using slq, fun b x y m e => dpq b (List.mem_map.mpr ⟨_, m, e⟩), ?_⟩
          rw [hts]
          exact fin
  rcases hs2 with rfl | rfl
  · simp
    refine ⟨p1, k + 100, 6, rfl, pk1, by omega, by decide, by decide, fun w p2 _ _ pk2 => ?_⟩
    simp
    exact main _ _ pk2
  · simp
    refine ⟨p1, k + 100, 6, rfl, pk1, by omega, by decide, by decide, fun w p2 _ _ pk2 => ?_⟩
    simp
    exact main _ _ pk2
end K36

set_option Elab.async false
set_option linter.all false
set_option maxRecDepth 100000
set_option maxHeartbeats 2000000
namespace K36
open PySem L2 PySem.Spec PyProof.Rows Pu TL
def nmP (rs : List Str) (p : Nat × Nat) : Str × Str := (nm rs p.1, nm rs p.2)
def linesOf (rs : List Str) (ps : List (Nat × Nat)) : List Str := rs.map roomLine ++ (ps.map (nmP rs)).map fun d => doorLine d.1 d.2
theorem room_eq (x : Str) : ("room " : Str) ++ x = roomLine x := by
  have e : ("room " : Str) = "room" ++ " " := by decide +kernel
  refine ext_tl ?_
  unfold roomLine
  rw [e]
  simp only [tl_append, List.append_assoc]
theorem door_eq (x y : Str) : (("door " : Str) ++ x) ++ " " ++ y = doorLine x y := by
  have e : ("door " : Str) = "door" ++ " " := by decide +kernel
  refine ext_tl ?_
  unfold doorLine
  rw [e]
  simp only [tl_append, List.append_assoc]
theorem ln_room {x : Str} (h : OkName x) : (10 : Nat) ∉ tl (roomLine x) ∧ (tl (roomLine x)).length ≤ 30 := by
  unfold roomLine
  rw [tl_append, tl_append, room_tl, sp_tl]
  have n1 : (10 : Nat) ∉ tl x := fun m => by
    have := List.all_eq_true.mp h.all 10 m
    simp at this
  have := h.few
  refine ⟨by simp [n1], by simp only [List.length_append, List.length_cons, List.length_nil]; omega⟩
theorem ln_door {x y : Str} (h : OkName x) (h' : OkName y) : (10 : Nat) ∉ tl (doorLine x y) ∧ (tl (doorLine x y)).length ≤ 30 := by
  unfold doorLine
  rw [tl_append, tl_append, tl_append, tl_append, door_tl, sp_tl]
  have n1 : (10 : Nat) ∉ tl x := fun m => by
    have := List.all_eq_true.mp h.all 10 m
    simp at this
  have n2 : (10 : Nat) ∉ tl y := fun m => by
    have := List.all_eq_true.mp h'.all 10 m
    simp at this
  have := h.few
  have := h'.few
  refine ⟨by simp [n1, n2], by simp only [List.length_append, List.length_cons, List.length_nil]; omega⟩
theorem joinL_len (S : List Nat) : ∀ parts : List (List Nat), (joinL S parts).length ≤ (parts.map fun p => p.length + S.length).sum
  | [] => Nat.le_refl _
  | [p] => by
    show p.length ≤ _
    simp
  | p :: q :: r => by
    have := joinL_len S (q :: r)
    show (p ++ (S ++ joinL S (q :: r))).length ≤ _
    rw [List.length_append, List.length_append, List.map_cons, List.sum_cons]
    omega
theorem sum_le_c {α : Type} (f : α → Nat) (c : Nat) : ∀ l : List α, (∀ a ∈ l, f a ≤ c) → (l.map f).sum ≤ c * l.length
  | [], _ => Nat.le_refl _
  | a :: l, h => by
    have := sum_le_c f c l fun b m => h b (List.mem_cons_of_mem _ m)
    have := h a (List.mem_cons_self ..)
    rw [List.map_cons, List.sum_cons, List.length_cons, Nat.mul_succ]
    omega
theorem line_all {rs : List Str} {ps : List (Nat × Nat)} (ok : RsOk rs) (po : PsOk rs.length ps) : ∀ l ∈ linesOf rs ps, (10 : Nat) ∉ tl l ∧ (tl l).length ≤ 30 := fun l m => by
  rcases List.mem_append.mp m with m | m
  · obtain ⟨x, mx, rfl⟩ := List.mem_map.mp m
    exact ln_room (ok.1 x mx)
  · obtain ⟨d, md, rfl⟩ := List.mem_map.mp m
    obtain ⟨p, mp, rfl⟩ := List.mem_map.mp md
    have := po.2.1 p mp
    exact ln_door (ok.1 _ (nm_mem (by omega))) (ok.1 _ (nm_mem this.2))
theorem lines_len {rs : List Str} {ps : List (Nat × Nat)} (ok : RsOk rs) (po : PsOk rs.length ps) : (linesOf rs ps).length ≤ 76 := by
  unfold linesOf
  rw [List.length_append, List.length_map, List.length_map, List.length_map]
  have := ok.2.2.2
  have := po.2.2
  omega
theorem text_ok {rs : List Str} {ps : List (Nat × Nat)} (ok : RsOk rs) (po : PsOk rs.length ps) : LinesOk (Txt.join "\n" (linesOf rs ps)) rs (ps.map (nmP rs)) := by
  have nl : tl ("\n" : Str) = [10] := by decide +kernel
  have ln := lines_len ok po
  have la := line_all ok po
  refine ⟨?_, ?_, ok.1, ok.2.1, ok.2.2.2, by rw [List.length_map]; exact po.2.2, ?_, ?_, ?_⟩
  · rw [split_join nl (by decide +kernel) ?_ fun p m => (la p m).1]
    · rfl
    · intro e
      have h1 := ok.2.2.1
      have h2 := congrArg List.length e
      unfold linesOf at h2
      rw [List.length_append, List.length_map] at h2
      have h3 : ([] : List Str).length = 0 := rfl
      omega
  · have h1 : (tl (Txt.join "\n" (linesOf rs ps))).length ≤ 40 * 76 := by
      rw [join_eq, tl_join, nl]
      refine Nat.le_trans (joinL_len _ _) ?_
      refine Nat.le_trans (sum_le_c _ 40 _ fun p m => ?_) ?_
      · obtain ⟨l, ml, rfl⟩ := List.mem_map.mp m
        have := (la l ml).2
        show (tl l).length + 1 ≤ 40
        omega
      · rw [List.length_map]
        exact Nat.mul_le_mul_left _ ln
    have h1 : (Txt.join "\n" (linesOf rs ps)).length ≤ 40 * 76 := h1
    exact Nat.le_trans (Nat.add_le_add_right h1 2) (by decide)
  · intro d m
    obtain ⟨p, mp, rfl⟩ := List.mem_map.mp m
    have hp := po.2.1 p mp
    refine ⟨nm_mem (by omega), nm_mem hp.2, fun e => ?_⟩
    have := nm_inj ok.2.1 (by omega) hp.2 e
    omega
  · unfold List.Nodup
    rw [List.pairwise_map]
    refine List.Pairwise.imp_of_mem (fun {a b} ma mb hab e => hab ?_) po.1
    have ha := po.2.1 a ma
    have hb := po.2.1 b mb
    have e1 := congrArg Prod.fst e
    have e2 := congrArg Prod.snd e
    exact Prod.ext (nm_inj ok.2.1 (by omega) (by omega) e1) (nm_inj ok.2.1 (by omega) (by omega) e2)
  · intro d m m2
    obtain ⟨a, ma, rfl⟩ := List.mem_map.mp m
    obtain ⟨b, mb, e⟩ := List.mem_map.mp m2
    have ha := po.2.1 a ma
    have hb := po.2.1 b mb
    have e1 := nm_inj ok.2.1 (by omega) (by omega) (congrArg Prod.fst e)
    have e2 := nm_inj ok.2.1 (by omega) (by omega) (congrArg Prod.snd e)
    omega
theorem len_app (a b : Str) : (a ++ b).length = a.length + b.length := by
  have h : (tl (a ++ b)).length = (tl a).length + (tl b).length := by rw [tl_append, List.length_append]
  exact h
theorem _root_.Pu.OkName.len {x : Str} (h : OkName x) : x.length ≤ 8 := h.few
theorem len_room : (Str.ofString "room ").length = 5 := by decide +kernel
theorem len_door : (Str.ofString "door ").length = 5 := by decide +kernel
theorem len_sp : (Str.ofString " ").length = 1 := by decide +kernel
theorem len_nl : (Str.ofString "\n").length = 1 := by decide +kernel
def spText : DSp := fun ds Q _ => ∃ rs ps, ds = [ownD rs ps] ∧ RsOk rs ∧ PsOk rs.length ps ∧ ∀ text, LinesOk text rs (ps.map (nmP rs)) → Q (.fz (.str text)) [.non]
theorem kp__law_text {S : Sps} {C : Nat} : keeps [.fz] 5 spText (w__law_text S C) := by
  refine keeps_i fun ds Q E hs hl K hn hr => ?_
  obtain ⟨rs, ps, rfl, ok, po, q⟩ := hs
  unfold w__law_text
  refine seq_i fun N hN => ?_
  simp only [wSet]
  refine lcM rs D.str (fun x => D.str (roomLine x)) (fun P h => by unfold ownD at h ⊢; simpa [kIx.kIxS] using h) (len_sz ok.2.2.2) (fun x m P h => ?_) ?_
  · have := (ok.1 x m).len
    have sz : 100 < sizeLine := by decide
    simp [room_eq, len_room]
    refine ⟨by omega, ?_⟩
    simpa using h
  · simp
    refine hN _ ?_
    simp only [wRet, wMt, rE, wC, rsC, rsN, wOp, rN]
    simp
    refine lcM ps prT (fun p => D.str (doorLine (nm rs p.1) (nm rs p.2))) (fun P h => by unfold ownD at h ⊢; simp [kIx.kIxS]; exact h) (Nat.le_trans po.2.2 (by decide)) (fun p m P h => ?_) ?_
    · have hp := po.2.1 p m
      have h1 : p.1 < rs.length := by omega
      have l1 := (ok.1 _ (nm_mem h1)).len
      have l2 := (ok.1 _ (nm_mem hp.2)).len
      have sz : 100 < sizeLine := by decide
      simp [prT, ownD, kIx.kIxS, intD, at_rs h1, at_rs hp.2, door_eq, len_app, len_door, len_sp]
      refine ⟨by omega, by omega, by omega, ?_⟩
      simpa [ownD, intD] using h
    · have ln := lines_len ok po
      have la := line_all ok po
      have e : (rs.map fun x => D.str (roomLine x)) ++ (ps.map fun p => D.str (doorLine (nm rs p.1) (nm rs p.2))) = (linesOf rs ps).map D.str := by
        unfold linesOf nmP
        rw [List.map_append, List.map_map, List.map_map, List.map_map]
        rfl
      have ll : rs.length + ps.length ≤ sizeLine := by
        have := ok.2.2.2
        have := po.2.2
        exact Nat.le_trans (show _ ≤ 76 by omega) (by decide)
      simp [e, strsOf_map, len_nl]
      refine ⟨ll, ?_, hr _ _ ?_⟩
      · have := sum_le_c (fun x : Str => x.length) 30 (linesOf rs ps) fun l m => (la l m).2
        omega
      · have := q _ (text_ok ok po)
        simpa using this
end K36

set_option Elab.async false
set_option linter.all false
set_option maxRecDepth 100000
set_option maxHeartbeats 2000000
namespace K36
open PySem L2 PySem.Spec PyProof.Rows Pu TL
/-! places of names -/
def ix (rs : List Str) (x : Str) : Nat := rs.idxOf x
theorem ix_lt {rs : List Str} {x : Str} (h : x ∈ rs) : ix rs x < rs.length := List.idxOf_lt_length_of_mem h
theorem nm_ix {rs : List Str} {x : Str} (h : x ∈ rs) : nm rs (ix rs x) = x := by
  unfold nm ix
  rw [List.getElem?_eq_getElem (List.idxOf_lt_length_of_mem h)]
  exact List.getElem_idxOf _
theorem ix_nm {rs : List Str} (nd : rs.Nodup) {i : Nat} (h : i < rs.length) : ix rs (nm rs i) = i :=
  nm_inj nd (ix_lt (nm_mem h)) h (nm_ix (nm_mem h))
theorem hou_of {C : Nat} {text : Str} {rs : List Str} {ps : List (Nat × Nat)} {told : List (Str × Str)} (ok : RsOk rs) (po : PsOk rs.length ps) (t : Told (ps.map (nmP rs)) told) : Hou C rs (adj ps) (houD C text rs told) := by
  obtain ⟨fl, hf, pm⟩ := t
  have lt : ∀ p ∈ ps, p.1 < rs.length ∧ p.2 < rs.length ∧ p.1 ≠ p.2 := fun p m => by
    have := po.2.1 p m
    omega
  have el : ∀ d, d ∈ told ↔ ∃ p ∈ ps, d = fl (nmP rs p) := fun d => by
    rw [pm.mem_iff, List.mem_map]
    constructor
    · rintro ⟨e, m, rfl⟩
      obtain ⟨p, mp, rfl⟩ := List.mem_map.mp m
      exact ⟨p, mp, rfl⟩
    · rintro ⟨p, mp, rfl⟩
      exact ⟨_, List.mem_map.mpr ⟨p, mp, rfl⟩, rfl⟩
  have fp : ∀ p ∈ ps, fl (nmP rs p) = nmP rs p ∨ fl (nmP rs p) = nmP rs (p.2, p.1) := fun p m => hf _ (List.mem_map.mpr ⟨p, m, rfl⟩)
  have gp : ∀ p ∈ ps, (ix rs (nmP rs p).1, ix rs (nmP rs p).2) = p ∧ (ix rs (nmP rs (p.2, p.1)).1, ix rs (nmP rs (p.2, p.1)).2) = (p.2, p.1) := fun p m => by
    have := lt p m
    unfold nmP
    rw [ix_nm ok.2.1 this.1, ix_nm ok.2.1 this.2.1]
    exact ⟨rfl, rfl⟩
  refine ⟨text, told, told.map fun d => (ix rs d.1, ix rs d.2), rfl, ?_, ?_, ?_⟩
  · rw [List.map_map]
    have : ∀ d ∈ told, ((fun p : Nat × Nat => (nm rs p.1, nm rs p.2)) ∘ fun d : Str × Str => (ix rs d.1, ix rs d.2)) d = id d := fun d m => by
      obtain ⟨p, mp, rfl⟩ := (el d).mp m
      have := lt p mp
      rcases fp p mp with e | e <;> rw [e]
      · show (nm rs (ix rs (nm rs p.1)), nm rs (ix rs (nm rs p.2))) = _
        rw [nm_ix (nm_mem this.1), nm_ix (nm_mem this.2.1)]
        rfl
      · show (nm rs (ix rs (nm rs p.2)), nm rs (ix rs (nm rs p.1))) = _
        rw [nm_ix (nm_mem this.1), nm_ix (nm_mem this.2.1)]
        rfl
    rw [List.map_congr_left this, List.map_id]
  · intro q m
    obtain ⟨d, md, rfl⟩ := List.mem_map.mp m
    obtain ⟨p, mp, rfl⟩ := (el d).mp md
    have := lt p mp
    rcases fp p mp with e | e <;> rw [e]
    · rw [(gp p mp).1]; exact this
    · rw [(gp p mp).2]; exact ⟨this.2.1, this.1, fun e => this.2.2 e.symm⟩
  · intro i j
    unfold adj
    rw [Bool.or_eq_true, decide_eq_true_iff, decide_eq_true_iff]
    have mm : ∀ q, q ∈ told.map (fun d => (ix rs d.1, ix rs d.2)) → q ∈ ps ∨ (q.2, q.1) ∈ ps := fun q m => by
      obtain ⟨d, md, rfl⟩ := List.mem_map.mp m
      obtain ⟨p, mp, rfl⟩ := (el d).mp md
      rcases fp p mp with e | e <;> rw [e]
      · rw [(gp p mp).1]; exact .inl mp
      · rw [(gp p mp).2]; exact .inr mp
    have mb : ∀ p ∈ ps, p ∈ told.map (fun d => (ix rs d.1, ix rs d.2)) ∨ (p.2, p.1) ∈ told.map (fun d => (ix rs d.1, ix rs d.2)) := fun p mp => by
      have h : (fun d : Str × Str => (ix rs d.1, ix rs d.2)) (fl (nmP rs p)) ∈ told.map (fun d => (ix rs d.1, ix rs d.2)) := List.mem_map.mpr ⟨_, (el _).mpr ⟨p, mp, rfl⟩, rfl⟩
      rcases fp p mp with e | e <;> rw [e] at h
      · exact .inl ((gp p mp).1 ▸ h)
      · exact .inr ((gp p mp).2 ▸ h)
    constructor
    · rintro (m | m)
      · exact mb _ m
      · exact (mb _ m).symm
    · rintro (m | m)
      · exact mm _ m
      · exact (mm _ m).symm
theorem leD_tot : PySem.W.TotalLe leD := by
  have h : leD = PySem.W.dataLe false D.py := rfl
  rw [h]
  exact PySem.W.sortLe_total _ _ _
theorem leD_anti {a b : Str} (h1 : leD (.str a) (.str b) = true) (h2 : leD (.str b) (.str a) = true) : a = b := by
  have e : ∀ x y : Str, leD (.str x) (.str y) = decide (x.cps.toList ≤ y.cps.toList) := fun x y => congrFun (congrFun (PySem.W.dataLe_str (k := fun z : Str => z)) x) y
  rw [e, decide_eq_true_iff] at h1 h2
  exact ext_tl (List.le_antisymm h1 h2)
theorem sort_same {l m : List Str} (p : l.Perm m) : (l.map D.str).mergeSort leD = (m.map D.str).mergeSort leD := by
  refine List.Perm.eq_of_pairwise (le := fun a b => leD a b = true) (fun a b ma mb h1 h2 => ?_) (List.pairwise_mergeSort leD_tot.trans (fun a b => by rw [Bool.or_eq_true]; exact leD_tot.total a b) _) (List.pairwise_mergeSort leD_tot.trans (fun a b => by rw [Bool.or_eq_true]; exact leD_tot.total a b) _) ?_
  · obtain ⟨x, _, rfl⟩ := List.mem_map.mp ((List.mergeSort_perm _ _).mem_iff.mp ma)
    obtain ⟨y, _, rfl⟩ := List.mem_map.mp ((List.mergeSort_perm _ _).mem_iff.mp mb)
    rw [leD_anti h1 h2]
  · exact (List.mergeSort_perm _ _).trans ((p.map _).trans (List.mergeSort_perm _ _).symm)
end K36

set_option Elab.async false
set_option linter.all false
set_option maxRecDepth 100000
set_option maxHeartbeats 2000000
namespace K36
open PySem L2 PySem.Spec PyProof.Rows Pu TL
/-! how long what is told of lots is -/
theorem ints_all {B : Nat} : ∀ {l : List D}, (∀ d ∈ l, d.py.intsShort B = true) → PyData.intsShortAll B (pys l) = true
  | [], _ => by simp [pys, PyData.intsShortAll]
  | d :: l, h => by
    have h1 := h d (List.mem_cons_self ..)
    have h2 := ints_all (B := B) (l := l) fun e m => h e (List.mem_cons_of_mem _ m)
    simp [pys, PyData.intsShortAll, h1, h2]
theorem show_all : ∀ {l : List D}, (∀ d ∈ l, d.py.showable = true) → PyData.showableAll (pys l) = true
  | [], _ => by simp [pys, PyData.showableAll]
  | d :: l, h => by
    have h1 := h d (List.mem_cons_self ..)
    have h2 := show_all (l := l) fun e m => h e (List.mem_cons_of_mem _ m)
    simp [pys, PyData.showableAll, h1, h2]
theorem weigh_all {c : Nat} : ∀ {l : List D}, (∀ d ∈ l, d.py.weight ≤ c) → PyData.weightAll (pys l) ≤ (c + 1) * l.length
  | [], _ => by simp [pys, PyData.weightAll]
  | d :: l, h => by
    have h1 := h d (List.mem_cons_self ..)
    have h2 := weigh_all (c := c) (l := l) fun e m => h e (List.mem_cons_of_mem _ m)
    simp only [pys, PyData.weightAll, List.length_cons, Nat.mul_succ]
    omega
theorem lot_facts {rs : List Str} (ok : RsOk rs) (p : Nat → Bool) : (lotD rs p).py.intsShort 8 = true ∧ (lotD rs p).py.showable = true ∧ (lotD rs p).py.weight ≤ 9 * 16 := by
  unfold lotD
  refine ⟨ints_all (l := (pick rs p).map D.str) fun d m => ?_, show_all (l := (pick rs p).map D.str) fun d m => ?_, ?_⟩
  · obtain ⟨x, _, rfl⟩ := List.mem_map.mp m
    rfl
  · obtain ⟨x, _, rfl⟩ := List.mem_map.mp m
    rfl
  · have h := weigh_all (c := 8) (l := (pick rs p).map D.str) fun d m => by
      obtain ⟨x, mx, rfl⟩ := List.mem_map.mp m
      exact (ok.1 x (pick_sub mx)).len
    have l := pick_len rs p
    have := ok.2.2.2
    rw [List.length_map] at h
    exact Nat.le_trans h (Nat.mul_le_mul_left _ (by omega))
theorem good_lots {rs : List Str} (ok : RsOk rs) (lot : Nat → Nat → Bool) (m : Nat) : (lotsD rs lot m).good = true := good_tup (n := 1) (fun d md => by
    obtain ⟨k, _, rfl⟩ := List.mem_map.mp md
    exact good_plain (good_lot ok _)) fun d md => by
    obtain ⟨k, _, rfl⟩ := List.mem_map.mp md
    show PyData.depthAll (pys ((pick rs (lot k)).map D.str)) + 1 ≤ 1
    rw [depth_pys0 (strs_py _)]
    exact Nat.le_refl _
theorem repr_lots {rs : List Str} (ok : RsOk rs) (lot : Nat → Nat → Bool) {m : Nat} (hm : m ≤ 200) : (lotsD rs lot m).plain = true ∧ (lotsD rs lot m).py.showable = true ∧ (lotsD rs lot m).py.shown.length ≤ sizeLine ∧ (lotsD rs lot m).py.depth ≤ 64 := by
  have g := good_lots ok lot m
  have pl := good_plain g
  have all : ∀ d ∈ (List.range m).map (fun k => lotD rs (lot k)), d.py.intsShort 8 = true ∧ d.py.showable = true ∧ d.py.weight ≤ 9 * 16 := fun d md => by
    obtain ⟨k, _, rfl⟩ := List.mem_map.mp md
    exact lot_facts ok _
  have i8 : (lotsD rs lot m).py.intsShort 8 = true := ints_all (l := (List.range m).map fun k => lotD rs (lot k)) fun d md => (all d md).1
  have w : (lotsD rs lot m).py.weight ≤ (9 * 16 + 1) * 200 := by
    have h := weigh_all (c := 9 * 16) (l := (List.range m).map fun k => lotD rs (lot k)) fun d md => (all d md).2.2
    rw [List.length_map, List.length_range] at h
    exact Nat.le_trans h (Nat.mul_le_mul_left _ hm)
  refine ⟨pl, show_all (l := (List.range m).map fun k => lotD rs (lot k)) fun d md => (all d md).2.1, ?_, ?_⟩
  · have h := PyData.shown_le 8 (by decide) _ (PyData.leavesShort_of_canLay0 8 _ (lay_of _ pl) i8)
    refine Nat.le_trans h ?_
    refine Nat.le_trans (Nat.add_le_add_right (Nat.mul_le_mul_left _ w) 8) (by decide)
  · unfold D.good at g
    rw [Bool.and_eq_true, decide_eq_true_iff] at g
    exact g.2
theorem repr_bl (b : Bool) : (D.bl b).plain = true ∧ (D.bl b).py.showable = true ∧ (D.bl b).py.shown.length ≤ sizeLine ∧ (D.bl b).py.depth ≤ 64 := by
  cases b <;> exact ⟨rfl, rfl, by decide +kernel, by decide⟩
/-! rooms that are named otherwise, in another sequence -/
structure Ren (n : Nat) (mn os : List Str) : Prop where
  lm : mn.length = n
  lo : os.length = n
  nmd : mn.Nodup
  nod : os.Nodup
  mem : ∀ x, x ∈ os ↔ x ∈ mn
def gg (mn os : List Str) (i : Nat) : Nat := ix os (nm mn i)
section
variable {n : Nat} {mn os : List Str}
theorem Ren.lt (R : Ren n mn os) {i : Nat} (h : i < n) : gg mn os i < n := by
  have := ix_lt (rs := os) ((R.mem _).mpr (nm_mem (rs := mn) (i := i) (by rw [R.lm]; exact h)))
  rw [R.lo] at this
  exact this
theorem Ren.name (R : Ren n mn os) {i : Nat} (h : i < n) : nm os (gg mn os i) = nm mn i := nm_ix ((R.mem _).mpr (nm_mem (by rw [R.lm]; exact h)))
theorem Ren.inj (R : Ren n mn os) {i j : Nat} (hi : i < n) (hj : j < n) (e : gg mn os i = gg mn os j) : i = j := by
  have h1 := R.name hi
  rw [e, R.name hj] at h1
  exact nm_inj R.nmd (by rw [R.lm]; exact hi) (by rw [R.lm]; exact hj) h1.symm
theorem Ren.sur (R : Ren n mn os) {j : Nat} (hj : j < n) : ∃ i, i < n ∧ gg mn os i = j := by
  have m := (R.mem _).mp (nm_mem (rs := os) (i := j) (by rw [R.lo]; exact hj))
  refine ⟨ix mn (nm os j), by rw [← R.lm]; exact ix_lt m, ?_⟩
  unfold gg
  rw [nm_ix m, ix_nm R.nod (by rw [R.lo]; exact hj)]
def swp (mn os : List Str) (p : Nat × Nat) : Nat × Nat := if gg mn os p.1 < gg mn os p.2 then (gg mn os p.1, gg mn os p.2) else (gg mn os p.2, gg mn os p.1)
theorem Ren.ps (R : Ren n mn os) {ps ts : List (Nat × Nat)} (po : PsOk n ps) (pm : ts.Perm (ps.map (swp mn os))) : PsOk n ts := by
  have hne : ∀ p ∈ ps, gg mn os p.1 ≠ gg mn os p.2 := fun p m e => by
    have := po.2.1 p m
    have := R.inj (by omega) (by omega) e
    omega
  refine ⟨pm.nodup_iff.mpr ?_, fun q m => ?_, by rw [pm.length_eq, List.length_map]; exact po.2.2⟩
  · unfold List.Nodup
    rw [List.pairwise_map]
    refine List.Pairwise.imp_of_mem (fun {a b} ma mb hab e => hab ?_) po.1
    have ha := po.2.1 a ma
    have hb := po.2.1 b mb
    have na := hne a ma
    have nb := hne b mb
    have i1 := R.inj (i := a.1) (j := b.1) (by omega) (by omega)
    have i2 := R.inj (i := a.2) (j := b.2) (by omega) (by omega)
    have i3 := R.inj (i := a.1) (j := b.2) (by omega) (by omega)
    have i4 := R.inj (i := a.2) (j := b.1) (by omega) (by omega)
    unfold swp at e
    split at e <;> split at e <;> injection e with e1 e2
    · exact Prod.ext (i1 e1) (i2 e2)
    · have := i3 e1; have := i4 e2; omega
    · have := i4 e1; have := i3 e2; omega
    · exact Prod.ext (i1 e2) (i2 e1)
  · obtain ⟨p, mp, rfl⟩ := List.mem_map.mp (pm.mem_iff.mp m)
    have hp := po.2.1 p mp
    have np := hne p mp
    have l1 := R.lt (i := p.1) (by omega)
    have l2 := R.lt (i := p.2) (by omega)
    unfold swp
    split
    · exact ⟨by assumption, l2⟩
    · exact ⟨by show gg mn os p.2 < gg mn os p.1; omega, l1⟩
theorem Ren.adj (R : Ren n mn os) {ps ts : List (Nat × Nat)} (po : PsOk n ps) (pm : ts.Perm (ps.map (swp mn os))) {i j : Nat} (hi : i < n) (hj : j < n) : adj ts (gg mn os i) (gg mn os j) = adj ps i j := by
  have key : ∀ a b, a < n → b < n → ((gg mn os a, gg mn os b) ∈ ts → (a, b) ∈ ps ∨ (b, a) ∈ ps) := fun a b ha hb m => by
    obtain ⟨p, mp, e⟩ := List.mem_map.mp (pm.mem_iff.mp m)
    have hp := po.2.1 p mp
    unfold swp at e
    split at e <;> injection e with e1 e2
    · have := R.inj (by omega) ha e1
      have := R.inj (by omega) hb e2
      exact .inl (by subst_vars; exact mp)
    · have := R.inj (by omega) ha e1
      have := R.inj (by omega) hb e2
      exact .inr (by subst_vars; exact mp)
  have back : ∀ p ∈ ps, (gg mn os p.1, gg mn os p.2) ∈ ts ∨ (gg mn os p.2, gg mn os p.1) ∈ ts := fun p mp => by
    have m := pm.mem_iff.mpr (List.mem_map.mpr ⟨p, mp, rfl⟩)
    unfold swp at m
    split at m
    · exact .inl m
    · exact .inr m
  rw [Bool.eq_iff_iff]
  unfold K36.adj
  simp only [Bool.or_eq_true, decide_eq_true_iff]
  constructor
  · rintro (m | m)
    · exact key i j hi hj m
    · exact (key j i hj hi m).symm
  · rintro (m | m)
    · exact back _ m
    · exact (back _ m).symm
/-- what is told of the rooms that are named otherwise -/
theorem Ren.told (R : Ren n mn os) {ps ts : List (Nat × Nat)} (po : PsOk n ps) (pm : ts.Perm (ps.map (swp mn os))) {lot lot' : Nat → Nat → Bool} {m : Nat} (hL : ∀ k i, k < m → i < n → lot' k (gg mn os i) = lot k i) {k : Nat} (hk : k < m) :
    (pick os (stF n (K36.adj ts) lot' full k)).Perm ((nums n (stF n (K36.adj ps) lot full k)).map (nm mn)) := by
  have sT := stT_map (m := m) (lot := lot) (lot' := lot') (g := gg mn os) (fun i h => R.lt h) (fun i j hi hj e => R.inj hi hj e) (fun j hj => R.sur hj) (fun i j hi hj => R.adj po pm hi hj) hL
  have sF : ∀ i, i < n → stF n (K36.adj ts) lot' full k (gg mn os i) = stF n (K36.adj ps) lot full k i := fun i hi => by
    have h1 := sT k (by omega) i hi
    unfold stF
    rw [hL k i hk hi]
    exact congrArg (· && !lot k i) h1
  have nd : ∀ (l : List Str) (p : Nat → Bool), l.Nodup → l.length = n → ((nums n p).map (Pu.nm l)).Nodup := fun l p hl hn => by
    unfold List.Nodup
    rw [List.pairwise_map]
    refine List.Pairwise.imp_of_mem (fun {a b} ma mb hab e => ?_) (nums_pair n p)
    have := nm_inj hl (by rw [hn]; exact (mem_nums.mp ma).1) (by rw [hn]; exact (mem_nums.mp mb).1) e
    omega
  rw [pick_eq, R.lo]
  refine (List.perm_ext_iff_of_nodup (nd os _ R.nod R.lo) (nd mn _ R.nmd R.lm)).mpr fun x => ?_
  rw [List.mem_map, List.mem_map]
  constructor
  · rintro ⟨j, mj, rfl⟩
    obtain ⟨hj, pj⟩ := mem_nums.mp mj
    obtain ⟨i, hi, rfl⟩ := R.sur hj
    exact ⟨i, mem_nums.mpr ⟨hi, by rw [← sF i hi]; exact pj⟩, (R.name hi).symm⟩
  · rintro ⟨i, mi, rfl⟩
    obtain ⟨hi, pi⟩ := mem_nums.mp mi
    exact ⟨gg mn os i, mem_nums.mpr ⟨R.lt hi, by rw [sF i hi]; exact pi⟩, R.name hi⟩
end
end K36

set_option Elab.async false
set_option linter.all false
set_option maxRecDepth 100000
set_option maxHeartbeats 4000000
namespace K36
open PySem L2 PySem.Spec PyProof.Rows Pu TL
structure SpOk (S : Sps) (C : Nat) : Prop where
  take : S._law_take = spTake
  some : S._law_some = spSome
  draw : S._law_house = spDraw
  text : S._law_text = spText
  house : S.House = spHouse C
  lurk : S.may_lurk = spLurk C
  caught : S.caught = spCatch C
  may : S._law_may_be = spLmay
  goes : S._law_goes = spLgoes
  lot : S._law_lot = spLlot
def poolM : List Str := (List.range 20).map (numS "m")
theorem poolM_ok : poolM.all okB = true := by decide +kernel
theorem poolM_nd : poolM.Nodup := by decide +kernel
theorem keys_strs : ∀ l : List Str, keysOf (l.map D.str) = some (l.map Sum.inr)
  | [] => rfl
  | x :: l => by rw [List.map_cons]; unfold keysOf; rw [keys_strs l]; rfl
theorem merge_new : ∀ (l : List Str) (xs : List D) (ks : List Ky) (ys : List D), l.length = xs.length → l.Nodup → (∀ x ∈ l, (.inr x : Ky) ∉ ks) → mergeD (.dic ks ys) ((l.map Sum.inr).zip xs) = .dic (ks ++ l.map Sum.inr) (ys ++ xs)
  | [], [], ks, ys, _, _, _ => by simp [mergeD]
  | [], _ :: _, _, _, h, _, _ => by cases h
  | _ :: _, [], _, _, h, _, _ => by cases h
  | x :: l, d :: xs, ks, ys, h, nd, hk => by
    rw [List.nodup_cons] at nd
    have e : putD ks ys (.inr x) d = .dic (ks ++ [.inr x]) (ys ++ [d]) := by
      unfold putD
      rw [if_neg]
      intro ha
      obtain ⟨k, mk, ek⟩ := List.any_eq_true.mp ha
      rw [decide_eq_true_iff] at ek
      exact hk x (List.mem_cons_self ..) (ek ▸ mk)
    show mergeD (putD ks ys (.inr x) d) ((l.map Sum.inr).zip xs) = _
    rw [e, merge_new l xs _ _ (Nat.succ.inj h) nd.2 (fun y my hm => ?_)]
    · simp
    · rcases List.mem_append.mp hm with hm | hm
      · exact hk y (List.mem_cons_of_mem _ my) hm
      · rw [List.mem_singleton] at hm
        injection hm with hm
        exact nd.1 (hm ▸ my)
theorem look_at : ∀ (l m : List Str) (i : Nat), l.Nodup → l.length = m.length → i < l.length → lookD (l.map Sum.inr) (m.map D.str) (.inr (nm l i)) = some (.str (nm m i))
  | [], _, _, _, _, h => absurd h (Nat.not_lt_zero _)
  | _ :: _, [], _, _, h, _ => by cases h
  | x :: l, y :: m, 0, _, _, _ => by simp [nm]
  | x :: l, y :: m, i + 1, nd, hl, hi => by
    have e1 : nm (x :: l) (i + 1) = nm l i := by simp [nm]
    have e2 : nm (y :: m) (i + 1) = nm m i := by simp [nm]
    have hi : i < l.length := Nat.lt_of_succ_lt_succ hi
    rw [List.nodup_cons] at nd
    rw [e1, e2, List.map_cons, List.map_cons]
    unfold lookD
    rw [if_neg, look_at l m i nd.2 (Nat.succ.inj hl) hi]
    intro h
    injection h with h
    exact nd.1 (h ▸ nm_mem hi)
def ledD (rs mn : List Str) : D := .dic (rs.map Sum.inr) (mn.map D.str)
theorem nm_listD (rs : List Str) : rs.map D.str = (List.range rs.length).map fun i => D.str (nm rs i) := by
  conv => lhs; rw [nm_list rs]
  rw [List.map_map]
  rfl
theorem idx_ix {os : List Str} (nd : os.Nodup) {x : Str} (h : x ∈ os) : firstAt (.str x) 0 (os.map D.str) = some (ix os x) := by
  have h1 := idx_at h
  rw [h1.1]
  have hl := (List.getElem?_eq_some_iff.mp h1.2).1
  have : nm os (idx os x) = x := by
    have := nm_at hl
    rw [h1.2] at this
    exact (Option.some.inj this).symm
  rw [nm_inj nd hl (ix_lt h) (this.trans (nm_ix h).symm)]
theorem two_sort {a b : Nat} (h : a ≠ b) : [intD a, intD b].mergeSort leD = if a < b then [intD a, intD b] else [intD b, intD a] := by
  have e : ∀ x y : Nat, leD (intD x) (intD y) = decide ((x : Int) ≤ y) := fun x y => congrFun (congrFun (PySem.W.dataLe_int (k := fun z : Nat => (z : Int))) x) y
  have tot : ∀ a b : D, (leD a b || leD b a) = true := fun a b => by rw [Bool.or_eq_true]; exact leD_tot.total a b
  refine List.Perm.eq_of_pairwise (le := fun a b => leD a b = true) (fun x y mx my h1 h2 => ?_) (List.pairwise_mergeSort leD_tot.trans tot _) ?_ ((List.mergeSort_perm _ _).trans ?_)
  · have mx := (List.mergeSort_perm _ _).mem_iff.mp mx
    have my : y ∈ [intD a, intD b] := by
      split at my
      · exact my
      · simp at my ⊢; exact my.symm
    have gx : ∃ i : Nat, x = intD i := by
      simp at mx
      rcases mx with rfl | rfl <;> exact ⟨_, rfl⟩
    have gy : ∃ i : Nat, y = intD i := by
      simp at my
      rcases my with rfl | rfl <;> exact ⟨_, rfl⟩
    obtain ⟨i, rfl⟩ := gx
    obtain ⟨j, rfl⟩ := gy
    rw [e, decide_eq_true_iff] at h1 h2
    have : i = j := by omega
    rw [this]
  · split
    · simp [e]; omega
    · simp [e]; omega
  · split
    · exact List.Perm.refl _
    · exact List.Perm.swap _ _ _
theorem srt_two (a b : Nat) : PySem.W.AllAlike ([intD a, intD b].map D.py) ∧ PySem.W.Sortable ([intD a, intD b].map D.py) := by
  constructor
  · intro x mx y my
    simp at mx my
    rcases mx with rfl | rfl <;> rcases my with rfl | rfl <;> rfl
  · refine .inr fun x mx => ?_
    simp at mx
    rcases mx with rfl | rfl <;> exact ⟨by simp [D.py, intD], by simp [D.py, intD]⟩
theorem srt_strs {l : List Str} (ok : ∀ x ∈ l, OkName x) : plains (l.map D.str) = true ∧ PySem.W.AllAlike ((l.map D.str).map D.py) ∧ PySem.W.Sortable ((l.map D.str).map D.py) ∧ ∀ b ∈ l.map D.str, b.py.depth ≤ 64 := by
  refine ⟨plains_of fun d m => ?_, fun x mx y my => ?_, .inr fun x mx => ?_, fun b m => ?_⟩
  · obtain ⟨x, mx, rfl⟩ := List.mem_map.mp m
    exact (ok x mx).ok
  · obtain ⟨x', mx', rfl⟩ := List.mem_map.mp mx
    obtain ⟨y', my', rfl⟩ := List.mem_map.mp my
    obtain ⟨x, _, rfl⟩ := List.mem_map.mp mx'
    obtain ⟨y, _, rfl⟩ := List.mem_map.mp my'
    rfl
  · obtain ⟨x', mx', rfl⟩ := List.mem_map.mp mx
    obtain ⟨x, _, rfl⟩ := List.mem_map.mp mx'
    exact ⟨by simp [D.py], by simp [D.py]⟩
  · obtain ⟨x, _, rfl⟩ := List.mem_map.mp m
    exact Nat.zero_le _
theorem prs_srt (l : List (Nat × Nat)) : plains (l.map prT) = true ∧ PySem.W.AllAlike ((l.map prT).map D.py) ∧ PySem.W.Sortable ((l.map prT).map D.py) ∧ ∀ b ∈ l.map prT, b.py.depth ≤ 64 := by
  refine ⟨plains_of fun d m => ?_, fun x mx y my => ?_, .inl fun x mx => ?_, fun b m => ?_⟩
  · obtain ⟨x, _, rfl⟩ := List.mem_map.mp m
    rfl
  · obtain ⟨x', mx', rfl⟩ := List.mem_map.mp mx
    obtain ⟨y', my', rfl⟩ := List.mem_map.mp my
    obtain ⟨x, _, rfl⟩ := List.mem_map.mp mx'
    obtain ⟨y, _, rfl⟩ := List.mem_map.mp my'
    rfl
  · obtain ⟨x', mx', rfl⟩ := List.mem_map.mp mx
    obtain ⟨x, _, rfl⟩ := List.mem_map.mp mx'
    exact ⟨_, _, rfl⟩
  · obtain ⟨x, _, rfl⟩ := List.mem_map.mp m
    exact (by decide : 1 ≤ 64)
theorem nobs_of : ∀ {l : List D}, (∀ d ∈ l, d.nob = true) → nobs l = true
  | [], _ => rfl
  | d :: l, h => Bool.and_eq_true_iff.mpr ⟨h d (List.mem_cons_self ..), nobs_of fun e m => h e (List.mem_cons_of_mem _ m)⟩
def w_tail (S : Sps) : WS :=
  (wSeq (wSet 11 (wB kDictZip (rsC (rE (wOp kIx (rN 1) (rE (wC (.str "rooms"))))) (rsC (rE (wCall S._law_some (asApp (asS 0 (asV (wLc (iRng1 (rE (wC (.int 20)))) (gN 9) tYes (wOp kAdd (rE (wC (.str "m"))) (rE (wB kStr (rsC (rN 9) rsN)))) [9]) (asV (wB kLen (rsC (rE (wOp kIx (rN 1) (rE (wC (.str "rooms"))))) rsN)) asN))) asN))) rsN))))
  (wSeq (wSet 12 (wCall S._law_some (asApp (asS 0 (asV (wLc (iSq (wOp kIx (rN 1) (rE (wC (.str "rooms"))))) (gN 19) tYes (wOp kIx (rN 11) (rN 19)) [19]) (asV (wB kLen (rsC (rE (wOp kIx (rN 1) (rE (wC (.str "rooms"))))) rsN)) asN))) asN)))
  (wSeq (wSet 13 (wLst vsN))
  (wSeq (wFor (iSq (wOp kIx (rN 1) (rE (wC (.str "doors"))))) (gTn 2 (gsC (gN 14) (gsC (gN 15) gsN))) (wDrop (wMut "list" kAppend 13 (vsC (wB kTuple (rsC (rE (wB kSorted (rsC (rE (wLst (vsC (wMt "list" kIndex (rN 12) (rsC (rE (wOp kIx (rN 11) (rE (wOp kIx (rE (wOp kIx (rN 1) (rE (wC (.str "rooms"))))) (rN 14))))) rsN)) (vsC (wMt "list" kIndex (rN 12) (rsC (rE (wOp kIx (rN 11) (rE (wOp kIx (rE (wOp kIx (rN 1) (rE (wC (.str "rooms"))))) (rN 15))))) rsN)) vsN)))) rsN))) rsN)) vsN))))
  (wSeq (wPar [16, 17] (hsC (wCall S.House (asV (wCall S._law_text (asApp (asV (wDic (psC (wC (.str "rooms")) (wN 12) (psC (wC (.str "doors")) (wB kSorted (rsC (rN 13) rsN)) psN))) asN) asN)) asN)) (hsC (wLst vsN) hsN)))
  (wSeq (wFor (iSq (wN 3)) (gN 18) (wDrop (wMut "list" kAppend 17 (vsC (wB kTuple (rsC (rE (wLc (iSq (wN 12)) (gN 19) (tV (wOp kIn (rN 19) (rE (wLc (iSq (wN 18)) (gN 14) tYes (wOp kIx (rN 11) (rN 14)) [14])))) (wN 19) [19])) rsN)) vsN))))
  (wRet (wOp kEq (rE (wLc (iSq (wCall S.may_lurk (asApp (asV (wN 16) (asV (wB kTuple (rsC (rN 17) rsN)) asN)) asN))) (gN 18) tYes (wB kSorted (rsC (rN 18) rsN)) [18])) (rE (wLc (iSq (wN 6)) (gN 18) tYes (wB kSorted (rsC (rE (wLc (iSq (wN 18)) (gN 19) tYes (wOp kIx (rN 11) (rN 19)) [19])) rsN)) [18]))))))))))
theorem right_tail {S : Sps} {C : Nat} (H : SpOk S C) {K : EndD} {p' : D} {k : Nat} {rs : List Str} {ps : List (Nat × Nat)} (ok : RsOk rs) (po : PsOk rs.length ps) {lot F : Nat → Nat → Bool} {m : Nat} (m1 : 1 ≤ m) (m2 : m ≤ 12) (hF : F = stF rs.length (adj ps) lot full) (pk : PotOk k p') (hk : k + 100 < 2 ^ 30) {a b c d e hv : Sl}
    (fin : ∀ p2 σ, PotOk (k + 100) p2 → K.rt (.fz (.bl true)) (.io 0 p2 :: σ)) : w_tail S K [.io 0 p', .fz (ownD rs ps), hv, .fz (lotsL rs lot m), a, b, .fz (lotsD rs F m), .fz (lotsD rs F m), e, c, d, .un, .un, .un, .un, .un, .un, .un, .un, .un, .un, .un, .un] := by
  have n16 := ok.2.2.2
  have nsz : rs.length ≤ sizeLine := len_sz n16
  have bn : (rs.length : Int) < 2 ^ 62 := by omega
  unfold w_tail
  refine seq_i fun N hN => ?_
  simp [ownD, kIx.kIxS]
  refine lcM (List.range 20) intD (fun i => D.str (numS "m" i)) (fun P h => by simp; exact h) (by decide) (fun i mi P h => ?_) ?_
  · have hi : i < 20 := List.mem_range.mp mi
    simp at h
    simp [intD]
    have l1 : ∀ i, i < 20 → i.log2 < 1920 := by decide +kernel
    have l2 : ∀ i : Nat, i < 20 → (Str.ofString "m").length + (Str.ofString (i : Int).repr).length ≤ sizeLine := by decide +kernel
    exact ⟨l1 i hi, l2 i hi, h⟩
  simp [H.some]
  refine ⟨p', k, poolM, rs.length, ?_, pk, by omega, by unfold poolM; simp; omega, by unfold poolM; simp, fun mn rest p2 pm hmn pk2 => ?_⟩
  · unfold poolM
    rw [List.map_map]
    rfl
  have okm : ∀ x ∈ mn, OkName x := fun x m => ok_of (List.all_eq_true.mp poolM_ok x (pm.mem_iff.mp (List.mem_append_left _ m)))
  have ndm : mn.Nodup := (List.nodup_append.mp (pm.nodup_iff.mpr poolM_nd)).1
  simp [keys_strs]
  have eled := merge_new rs (mn.map D.str) [] [] (by rw [List.length_map, hmn]) ok.2.1 (fun _ _ h => by cases h)
  rw [eled]
  refine hN [.io 0 p2, .fz (ownD rs ps), hv, .fz (lotsL rs lot m), a, b, .fz (lotsD rs F m), .fz (lotsD rs F m), e, c.keep, d, .ow (ledD rs mn), .un, .un, .un, .un, .un, .un, .un, .un, .un, .un, .un] ?_
  generalize c.keep = c2
  clear hN eled
  have lk : ∀ i, i < rs.length → lookD (rs.map Sum.inr) (mn.map D.str) (.inr (nm rs i)) = some (.str (nm mn i)) := fun i hi => look_at rs mn i ok.2.1 hmn.symm hi
  refine seq_i fun N hN => ?_
  simp [ownD, kIx.kIxS]
  refine lcM (List.range rs.length) (fun i => D.str (nm rs i)) (fun i => D.str (nm mn i)) (fun P h => by rw [← nm_listD] at h; simp [kIx.kIxS]; exact h) (by rw [List.length_range]; exact nsz) (fun i mi P h => ?_) ?_
  · have hi := List.mem_range.mp mi
    simp at h
    simp [ledD, lk i hi]
    exact h
  have emn : ((List.range rs.length).map fun i => D.str (nm mn i)) = mn.map D.str := by rw [nm_listD mn, hmn]
  rw [emn]
  simp [H.some]
  refine ⟨p2, _, mn, rs.length, rfl, pk2, by omega, by omega, by omega, fun os rest2 p3 pm2 hos pk3 => ?_⟩
  have pmo : os.Perm mn := by
    have := pm2.length_eq
    rw [List.length_append] at this
    have hr : rest2 = [] := List.eq_nil_of_length_eq_zero (by omega)
    rw [hr, List.append_nil] at pm2
    exact pm2
  have R : Ren rs.length mn os := ⟨hmn, hos, ndm, pmo.nodup_iff.mpr ndm, fun x => pmo.mem_iff⟩
  have oko : ∀ x ∈ os, OkName x := fun x m => okm x (pmo.mem_iff.mp m)
  have okos : RsOk os := ⟨oko, R.nod, by rw [hos]; exact ok.2.2.1, by rw [hos]; exact n16⟩
  have pk3 : PotOk (k + 100) p3 := pk3.le (by omega)
  have fin := fun σ => fin p3 σ pk3
  clear pm pm2 pk2 pk
  simp
  refine hN [.io 0 p3, .fz (ownD rs ps), hv, .fz (lotsL rs lot m), a, b, .fz (lotsD rs F m), .fz (lotsD rs F m), e, c2, d, .ow (ledD rs mn), .fz (.lst (os.map .str)), .un, .un, .un, .un, .un, .un, .un, .un, .un, .un] ?_
  clear hN
  refine seq_i fun N hN => ?_
  simp
  refine hN [.io 0 p3, .fz (ownD rs ps), hv, .fz (lotsL rs lot m), a, b, .fz (lotsD rs F m), .fz (lotsD rs F m), e, c2, d, .ow (ledD rs mn), .fz (.lst (os.map .str)), .ow (.lst []), .un, .un, .un, .un, .un, .un, .un, .un, .un] ?_
  clear hN
  refine seq_i fun N hN => ?_
  refine forJ ps prT (fun P h => by unfold ownD at h ⊢; simp [kIx.kIxS]; exact h) (fun i f g _ _ => [.io 0 p3, .fz (ownD rs ps), hv, .fz (lotsL rs lot m), a, b, .fz (lotsD rs F m), .fz (lotsD rs F m), e, c2, d, .ow (ledD rs mn), .fz (.lst (os.map .str)), .ow (.lst ((ps.take i).map fun p => prT (swp mn os p))), f, g, .un, .un, .un, .un, .un, .un, .un]) ⟨.un, .un, .un, .un, rfl⟩ (fun i hi f g _ _ N hN => ?_) (fun f g _ _ => hN _ ?_)
  · have hp := po.2.1 _ (List.getElem_mem hi)
    have ht : ps.take (i + 1) = ps.take i ++ [ps[i]] := by rw [List.take_add_one, List.getElem?_eq_getElem hi]; rfl
    have hlt : (ps.take i).length ≤ 60 := by
      have := List.length_take_le i ps
      have := po.2.2
      rw [List.length_take] at *
      omega
    revert hp ht
    generalize ps[i] = q
    intro hp ht
    have h1 : q.1 < rs.length := by omega
    have g1 := R.name h1
    have g2 := R.name hp.2
    have mo1 : nm mn q.1 ∈ os := (R.mem _).mpr (nm_mem (by rw [hmn]; exact h1))
    have mo2 : nm mn q.2 ∈ os := (R.mem _).mpr (nm_mem (by rw [hmn]; exact hp.2))
    have gs1 := good_str (oko _ mo1).ok
    have gs2 := good_str (oko _ mo2).ok
    have gos : (D.lst (os.map D.str)).good = true := good_lst (n := 0) (fun d m => by
      obtain ⟨x, mx, rfl⟩ := List.mem_map.mp m
      exact (oko x mx).ok) fun d m => by rw [strs_py os d m]; exact Nat.le_refl _
    simp [prT, ownD, ledD, kIx.kIxS, intD, at_rs h1, at_rs hp.2, lk _ h1, lk _ hp.2, idx_ix R.nod mo1, idx_ix R.nod mo2, gs1, gs2, gos]
    have hne : gg mn os q.1 ≠ gg mn os q.2 := fun e => by
      have := R.inj h1 hp.2 e
      omega
    have e2 : D.tup ([D.int (ix os (nm mn q.1) : Nat), D.int (ix os (nm mn q.2) : Nat)].mergeSort leD) = prT (swp mn os q) := by
      show D.tup ([intD (gg mn os q.1), intD (gg mn os q.2)].mergeSort leD) = _
      rw [two_sort hne]
      unfold swp
      split <;> rfl
    have e3 : ((ps.take i).map fun p => prT (swp mn os p)) ++ [prT (swp mn os q)] = (ps.take (i + 1)).map fun p => prT (swp mn os p) := by rw [ht, List.map_append]; rfl
    have s2 := srt_two (ix os (nm mn q.1)) (ix os (nm mn q.2))
    refine ⟨rfl, s2.1, s2.2, by decide, ⟨Nat.zero_le _, Nat.zero_le _⟩, Nat.lt_of_le_of_lt (Nat.le_trans (Nat.min_le_right _ _) po.2.2) (by decide), ?_⟩
    have := hN (.fz (intD q.1)) (.fz (intD q.2)) .un .un
    rw [e2]
    rw [← e3, List.map_take] at this
    exact this
  · have hN := hN
    rw [List.take_length]
    have eps : (ps.map fun p => prT (swp mn os p)) = (ps.map (swp mn os)).map prT := by rw [List.map_map]; rfl
    rw [eps]
    obtain ⟨sw, hsw⟩ : ∃ sw, sw = ps.map (swp mn os) := ⟨_, rfl⟩
    rw [← hsw]
    have swl : sw.length ≤ sizeLine := by rw [hsw, List.length_map]; exact Nat.le_trans po.2.2 (by decide)
    obtain ⟨ts, hts, tp⟩ := perm_map (g := fun d => match d with | .tup [.int i, .int j] => (i.toNat, j.toNat) | _ => default) (f := prT) (fun p => rfl) (List.mergeSort_perm (sw.map prT) leD)
    have pot : PsOk os.length ts := by rw [hos]; exact R.ps po (hsw ▸ tp)
    have qs := prs_srt sw
    refine seq_i fun N hN => ?_
    rw [List.map_map] at qs
    simp [H.text]
    refine ⟨qs.1, qs.2.1, qs.2.2.1, swl, fun b x y m e => qs.2.2.2 b (List.mem_map.mpr ⟨_, m, e⟩), ?_⟩
    rw [hts]
    refine ⟨os, ts, rfl, okos, pot, fun text lok => ?_⟩
    simp [H.house]
    refine ⟨text, os, _, rfl, lok, fun told tt => ?_⟩
    have hh := hou_of (C := C) (text := text) okos pot tt
    revert hh
    generalize houD C text os told = h2
    intro hh
    simp
    refine hN [.io 0 p3, .fz (ownD rs ps), hv, .fz (lotsL rs lot m), a, b, .fz (lotsD rs F m), .fz (lotsD rs F m), e, c2, d, .ow (ledD rs mn), .fz (.lst (os.map .str)), .ow (.lst (sw.map prT)), f, g, .fz h2, .ow (.lst []), .un, .un, .un, .un, .un] ?_
    clear hN qs hts lok tt
    obtain ⟨lot', hlot'⟩ : ∃ lot' : Nat → Nat → Bool, lot' = fun k j => decide (nm os j ∈ (nums rs.length (lot k)).map (nm mn)) := ⟨_, rfl⟩
    have hL : ∀ k i, k < m → i < rs.length → lot' k (gg mn os i) = lot k i := fun k i _ hi => by
      rw [hlot', Bool.eq_iff_iff, decide_eq_true_iff, R.name hi, List.mem_map]
      constructor
      · rintro ⟨j, mj, e⟩
        obtain ⟨hj, pj⟩ := mem_nums.mp mj
        rw [← nm_inj ndm (by rw [hmn]; exact hj) (by rw [hmn]; exact hi) e]
        exact pj
      · exact fun h => ⟨i, mem_nums.mpr ⟨hi, h⟩, rfl⟩
    have gos : (D.lst (os.map D.str)).good = true := good_lst (n := 0) (fun d m => by
      obtain ⟨x, mx, rfl⟩ := List.mem_map.mp m
      exact (oko x mx).ok) fun d m => by rw [strs_py os d m]; exact Nat.le_refl _
    have osz : os.length ≤ sizeLine := by rw [hos]; exact nsz
    refine seq_i fun N hN => ?_
    have pkl : ∀ l : Nat → Bool, (pick rs l).map D.str = (nums rs.length l).map fun i => D.str (nm rs i) := fun l => by rw [pick_eq, List.map_map]; rfl
    have nls : ∀ l : Nat → Bool, (nums rs.length l).length ≤ sizeLine := fun l => Nat.le_trans (nums_len _ _) nsz
    have gmn : ∀ l : Nat → Bool, (D.lst ((nums rs.length l).map fun i => D.str (nm mn i))).good = true := fun l => good_lst (n := 0) (fun d m => by
      obtain ⟨i, mi, rfl⟩ := List.mem_map.mp m
      exact (okm _ (nm_mem (by rw [hmn]; exact (mem_nums.mp mi).1))).ok) fun d m => by
      obtain ⟨i, mi, rfl⟩ := List.mem_map.mp m
      exact Nat.le_refl _
    have amn : ∀ (l : Nat → Bool) (x : Str), (((nums rs.length l).map fun i => D.str (nm mn i)).any fun z => beq z (.str x)) = decide (x ∈ (nums rs.length l).map (nm mn)) := fun l x => by
      rw [show ((nums rs.length l).map fun i => D.str (nm mn i)) = ((nums rs.length l).map (nm mn)).map D.str by rw [List.map_map]; rfl, any_strs]
    refine forJ (List.range m) (fun k => lotD rs (lot k)) (fun P h => by unfold lotsL at h ⊢; simp; exact h) (fun i w f _ _ => [.io 0 p3, .fz (ownD rs ps), hv, .fz (lotsL rs lot m), a, b, .fz (lotsD rs F m), .fz (lotsD rs F m), e, c2, d, .ow (ledD rs mn), .fz (.lst (os.map .str)), .ow (.lst (sw.map prT)), f, g, .fz h2, .ow (.lst ((List.range i).map fun k => lotD os (lot' k))), w, .un, .un, .un, .un]) ⟨.un, f, .un, .un, rfl⟩ (fun i hi w f _ _ N hN => ?_) (fun w f _ _ => hN _ ?_)
    · have hi : i < m := by simpa using hi
      rw [List.getElem_range]
      simp
      refine lcI [.io 0 p3, .fz (ownD rs ps), hv, .fz (lotsL rs lot m), a, b, .fz (lotsD rs F m), .fz (lotsD rs F m), e, c2, d, .ow (ledD rs mn), .fz (.lst (os.map .str)), .ow (.lst (sw.map prT)), f, g, .fz h2, .ow (.lst ((List.range i).map fun k => lotD os (lot' k))), .fz (lotD rs (lot i)), .un, .un, .un, .un] os D.str (fun x => decide (x ∈ (nums rs.length (lot i)).map (nm mn))) D.str (fun ρ' => ∃ f, ρ' = [.io 0 p3, .fz (ownD rs ps), hv, .fz (lotsL rs lot m), a, b, .fz (lotsD rs F m), .fz (lotsD rs F m), e, c2, d, .ow (ledD rs mn), .fz (.lst (os.map .str)), .ow (.lst (sw.map prT)), f, g, .fz h2, .ow (.lst ((List.range i).map fun k => lotD os (lot' k))), .fz (lotD rs (lot i)), .un, .un, .un, .un]) (fun P h => by simp; exact h) osz ⟨f, rfl⟩ (fun x mx ρ' hI P N h1 h2 => ?_) (fun ρ' hI => ?_)
      · obtain ⟨f, rfl⟩ := hI
        have gx := good_str (oko x mx).ok
        have h1 := fun f' h => h1 f' h
        simp
        refine lcM (nums rs.length (lot i)) (fun i => D.str (nm rs i)) (fun i => D.str (nm mn i)) (fun P h => by rw [← pkl] at h; unfold lotD; simp; exact h) (nls _) (fun j mj P h => ?_) ?_
        · have hj := (mem_nums.mp mj).1
          simp at h
          simp [ledD, lk j hj]
          exact h
        · have ec : (∃ z, z ∈ ((nums rs.length (lot i)).map fun i => D.str (nm mn i)) ∧ beq z (D.str x) = true) ↔ x ∈ (nums rs.length (lot i)).map (nm mn) := by
            rw [← List.any_eq_true, amn, decide_eq_true_iff]
          simp [gx, gmn, -List.mem_map]
          by_cases hx : x ∈ (nums rs.length (lot i)).map (nm mn)
          · rw [if_pos (ec.mpr hx)]
            exact h1 _ (by simpa using hx) ⟨f.keep, rfl⟩
          · rw [if_neg fun h => hx (ec.mp h)]
            exact h2 _ (by simpa using hx) ⟨f.keep, rfl⟩
      · obtain ⟨f, rfl⟩ := hI
        have ef : os.filter (fun x => decide (x ∈ (nums rs.length (lot i)).map (nm mn))) = pick os (lot' i) := by
          rw [hlot']
          exact filter_pick _
        rw [ef]
        simp
        have e4 : ((List.range i).map fun k => lotD os (lot' k)) ++ [D.tup ((pick os (lot' i)).map D.str)] = (List.range (i + 1)).map fun k => lotD os (lot' k) := by
          rw [List.range_succ, List.map_append]
          rfl
        rw [e4]
        exact ⟨Nat.lt_of_lt_of_le hi (Nat.le_trans m2 (by decide)), hN _ _ .un .un⟩
    · rw [List.length_range]
      have hm200 : m ≤ 200 := by omega
      obtain ⟨F', hF'⟩ : ∃ F', F' = stF os.length (adj ts) lot' full := ⟨_, rfl⟩
      have pms : ∀ k, k < m → (pick os (F' k)).Perm ((nums rs.length (F k)).map (nm mn)) := fun k hk => by
        have := R.told po (hsw ▸ tp) hL hk
        rw [hF', hF, hos]
        exact this
      have szk : ∀ l : Nat → Bool, (pick os l).length ≤ sizeLine := fun l => Nat.le_trans (pick_len _ _) osz
      refine (show wRet _ K [.io 0 p3, .fz (ownD rs ps), hv, .fz (lotsL rs lot m), a, b, .fz (lotsD rs F m), .fz (lotsD rs F m), e, c2, d, .ow (ledD rs mn), .fz (.lst (os.map .str)), .ow (.lst (sw.map prT)), f, g, .fz h2, .ow (lotsL os lot' m), w, .un, .un, .un, .un] from ?_)
      simp only [wRet, wOp, rE]
      refine lcM (List.range m) (fun k => lotD os (F' k)) (fun k => .lst (((pick os (F' k)).map D.str).mergeSort leD)) (fun P h => ?_) (by rw [List.length_range]; exact Nat.le_trans m2 (by decide)) (fun k mk P h => ?_) ?_
      · simp [H.lurk, lotsL]
        refine ⟨os, _, h2, lot', m, rfl, hh, okos, m1, hm200, ?_⟩
        rw [← hF']
        simp [lotsD]
        exact h
      · have okl : ∀ x ∈ pick os (F' k), OkName x := fun x m => oko x (pick_sub m)
        have sz := szk (F' k)
        have ss := srt_strs okl
        revert ss sz
        simp at h
        unfold lotD
        generalize pick os (F' k) = l at h
        intro sz ss
        rw [List.map_map] at ss
        simp
        exact ⟨ss.1, ss.2.1, ss.2.2.1, sz, fun x m => Nat.zero_le _, h⟩
      · simp
        refine lcM (List.range m) (fun k => lotD rs (F k)) (fun k => .lst ((((nums rs.length (F k)).map (nm mn)).map D.str).mergeSort leD)) (fun P h => by unfold lotsD; simp; exact h) (by rw [List.length_range]; exact Nat.le_trans m2 (by decide)) (fun k mk P h => ?_) ?_
        · simp at h
          simp
          refine lcM (nums rs.length (F k)) (fun i => D.str (nm rs i)) (fun i => D.str (nm mn i)) (fun P h => by rw [← pkl] at h; unfold lotD; simp; exact h) (nls _) (fun j mj P h => ?_) ?_
          · have hj := (mem_nums.mp mj).1
            simp at h
            simp [ledD, lk j hj]
            exact h
          · have okl : ∀ x ∈ (nums rs.length (F k)).map (nm mn), OkName x := fun x m => by
              obtain ⟨i, mi, rfl⟩ := List.mem_map.mp m
              exact okm _ (nm_mem (by rw [hmn]; exact (mem_nums.mp mi).1))
            have ss := srt_strs okl
            have e5 : ((nums rs.length (F k)).map fun i => D.str (nm mn i)) = ((nums rs.length (F k)).map (nm mn)).map D.str := by rw [List.map_map]; rfl
            have sz : ((nums rs.length (F k)).map (nm mn)).length ≤ sizeLine := by rw [List.length_map]; exact nls _
            rw [e5]
            rw [← List.map_map] at h
            revert ss sz h
            generalize (nums rs.length (F k)).map (nm mn) = l
            intro h ss sz
            rw [List.map_map] at ss
            simp
            exact ⟨ss.1, ss.2.1, ss.2.2.1, sz, fun x m => Nat.zero_le _, h⟩
        · have e6 : ((List.range m).map fun k => D.lst ((((nums rs.length (F k)).map (nm mn)).map D.str).mergeSort leD)) = (List.range m).map fun k => D.lst (((pick os (F' k)).map D.str).mergeSort leD) := by
            refine List.map_congr_left fun k mk => ?_
            rw [sort_same (pms k (List.mem_range.mp mk))]
          have each : ∀ k, ∃ l : List Str, ((pick os (F' k)).map D.str).mergeSort leD = l.map D.str ∧ ∀ x ∈ l, OkName x := fun k => by
            obtain ⟨l, e, pl⟩ := perm_map (g := fun d => match d with | .str x => x | _ => default) (f := D.str) (fun p => rfl) (List.mergeSort_perm ((pick os (F' k)).map D.str) leD)
            exact ⟨l, e, fun x m => oko x (pick_sub (pl.mem_iff.mp m))⟩
          have gg1 : (D.lst ((List.range m).map fun k => D.lst (((pick os (F' k)).map D.str).mergeSort leD))).good = true := good_lst (n := 1) (fun d m => by
            obtain ⟨k, _, rfl⟩ := List.mem_map.mp m
            obtain ⟨l, e, okl⟩ := each k
            rw [e]
            exact plain_tupS okl) fun d m => by
            obtain ⟨k, _, rfl⟩ := List.mem_map.mp m
            obtain ⟨l, e, okl⟩ := each k
            rw [e]
            show PyData.depthAll (pys (l.map D.str)) + 1 ≤ 1
            rw [depth_pys0 (strs_py l)]
            exact Nat.le_refl _
          have bb : beq (D.lst ((List.range m).map fun k => D.lst (((pick os (F' k)).map D.str).mergeSort leD))) (D.lst ((List.range m).map fun k => D.lst (((pick os (F' k)).map D.str).mergeSort leD))) = true := by
            refine beq_same (show nobs _ = true from nobs_of fun d m => ?_)
            obtain ⟨k, _, rfl⟩ := List.mem_map.mp m
            obtain ⟨l, e, okl⟩ := each k
            rw [e]
            exact nobs_strs l
          rw [e6]
          simp [gg1, bb]
          exact fin _
end K36

set_option Elab.async false
set_option linter.all false
set_option maxRecDepth 100000
set_option maxHeartbeats 4000000
namespace K36
open PySem L2 PySem.Spec PyProof.Rows Pu TL
theorem beq_lot0 {rs : List Str} (ok : RsOk rs) (p : Nat → Bool) : beq (lotD rs p) (D.tup []) = decide (mk rs.length p = 0) := by
  have h : beq (lotD rs p) (D.tup []) = decide (pick rs p = []) := by
    unfold lotD
    cases pick rs p with
    | nil => rfl
    | cons x l => rfl
  rw [h, Bool.eq_iff_iff, decide_eq_true_iff, decide_eq_true_iff, pick_nil, mk_zero]
def unE (n : Nat) : En := List.replicate n .un
def spRight : DSp := fun ds Q _ => ∃ (p : D) (k : Nat), ds = [p] ∧ PotOk k p ∧ k + 5000 < 2 ^ 30 ∧ ∀ p', PotOk (k + 5000) p' → Q (.fz (.bl true)) [p']
theorem kp__law_right {S : Sps} {C : Nat} (H : SpOk S C) : keeps [.io] 23 spRight (w__law_right S C) := by
  refine keeps_i fun ds Q E hs hl K hn hr => ?_
  obtain ⟨p, k, rfl, pk, hk, q⟩ := hs
  unfold w__law_right
  refine seq_i fun N hN => ?_
  simp [H.take, H.draw]
  refine ⟨p, k, 16, rfl, pk, by omega, by decide, by decide, fun r p1 r0 r1 pk1 => ?_⟩
  obtain ⟨r, rfl⟩ := Int.eq_ofNat_of_zero_le r0
  simp
  refine ⟨p1, k + 1, 1 + r, by simp, pk1, by omega, by omega, by omega, fun rs ps p2 hlen ok po pk2 => ?_⟩
  rw [← hlen] at po
  clear hlen r0 r1 pk pk1
  simp
  refine hN _ ?_
  refine seq_i fun N hN => ?_
  simp [H.text]
  refine ⟨rs, ps, rfl, ok, po, fun text lok => ?_⟩
  simp [H.house]
  refine ⟨text, rs, _, rfl, lok, fun told tt => ?_⟩
  have hh := hou_of (C := C) (text := text) ok po tt
  revert hh
  generalize houD C text rs told = hv
  intro hh
  simp
  refine hN _ ?_
  refine seq_i fun N hN => ?_
  refine wFor_eq ?_
  simp [H.take]
  refine ⟨p2, _, 12, rfl, pk2, by omega, by decide, by decide, fun r p3 r0 r1 pk3 => ?_⟩
  obtain ⟨r, rfl⟩ := Int.eq_ofNat_of_zero_le r0
  have b1 : (1 + (r : Int)) < 2 ^ 62 := by omega
  simp
  refine ⟨⟨by omega, b1⟩, ?_⟩
  have er : (1 + (r : Int)) = ((r + 1 : Nat) : Int) := by omega
  rw [er, rangeD0]
  have gr : (D.lst (rs.map D.str)).good = true := good_lst (n := 0) (fun d m => by
    obtain ⟨x, mx, rfl⟩ := List.mem_map.mp m
    exact (ok.1 x mx).ok) fun d m => by rw [strs_py rs d m]; exact Nat.le_refl _
  have n16 := ok.2.2.2
  have nsz : rs.length ≤ sizeLine := len_sz n16
  refine forW' _ (List.range (r + 1)) intD (fun P h => h) (fun i ρ => ∃ (p' : D) (L : List (Nat → Bool)) (a b : Sl), ρ = [.io 0 p', .fz (ownD rs ps), .fz hv, .ow (.lst (L.map (lotD rs))), a, b, .un, .un, .un, .un, .un, .un, .un, .un, .un, .un, .un, .un, .un, .un, .un, .un, .un] ∧ PotOk (k + 1002 + 20 * i) p' ∧ L.length = i) ⟨p3, [], _, _, rfl, pk3, rfl⟩ (fun i hi ρ N' hW hN' => ?_) (fun ρ hW => ?_)
  · obtain ⟨p', L, a, b, rfl, pk', hL⟩ := hW
    have hi : i < r + 1 := by simpa using hi
    simp only [gN, List.set_cons_succ, List.set_cons_zero]
    refine seq_i fun N1 hN1 => ?_
    simp [H.take, H.some, ownD, kIx.kIxS]
    refine ⟨p', _, rs.length + 1, by simp, pk', by omega, by omega, by omega, fun x p4 x0 x1 pk4 => ?_⟩
    obtain ⟨x, rfl⟩ := Int.eq_ofNat_of_zero_le x0
    refine ⟨p4, _, rs, x, rfl, pk4, by omega, by omega, by omega, fun out rest p5 pm ho pk5 => ?_⟩
    simp
    refine hN1 _ ?_
    have oko : ∀ x ∈ out, OkName x := fun x m => ok.1 x (pm.mem_iff.mp (List.mem_append_left _ m))
    have gn : (D.lst (out.map D.str)).good = true := good_lst (n := 0) (fun d m => by
      obtain ⟨x, mx, rfl⟩ := List.mem_map.mp m
      exact (oko x mx).ok) fun d m => by rw [strs_py out d m]; exact Nat.le_refl _
    simp [kIx.kIxS]
    refine lcB rs D.str (fun x => decide (x ∈ out)) D.str (fun P h => by simpa [kIx.kIxS] using h) nsz (fun y m P N h1 h2 => ?_) ?_
    · simp at h1 h2
      have ec : (∃ x, x ∈ List.map D.str out ∧ beq x (D.str y) = true) ↔ y ∈ out := by
        rw [← List.any_eq_true, any_strs, decide_eq_true_iff]
      simp [good_str (ok.1 y m).ok, gn]
      by_cases hy : y ∈ out
      · first
          | rw [if_pos (ec.mpr hy)]
          | rw [if_pos hy]
        exact h1 hy
      · first
          | rw [if_neg fun h => hy (ec.mp h)]
          | rw [if_neg hy]
        exact h2 hy
    · rw [filter_pick]
      simp
      refine ⟨by rw [hL]; exact Nat.lt_trans hi (Nat.lt_of_lt_of_le (show r + 1 < 14 by omega) (by decide)), hN' _ ⟨p5, L ++ [fun i => decide (nm rs i ∈ out)], .fz (intD i), .fz (.lst (out.map .str)), ?_, pk5.le (by omega), by simp [hL]⟩⟩
      rw [List.map_append]
      rfl
  · obtain ⟨p', L, a, b, rfl, pk', hL⟩ := hW
    refine hN _ ?_
    rw [List.length_range] at hL pk'
    obtain ⟨m, hm⟩ : ∃ m, m = r + 1 := ⟨_, rfl⟩
    obtain ⟨lot, hlot⟩ : ∃ lot : Nat → Nat → Bool, lot = fun k => L[k]?.getD default := ⟨_, rfl⟩
    have eL : L.map (lotD rs) = (List.range m).map fun k => lotD rs (lot k) := by
      refine List.ext_getElem? fun k => ?_
      by_cases h : k < m
      · have h2 : k < L.length := by omega
        simp [h, h2, hlot]
      · have h2 : ¬ k < L.length := by omega
        simp [h, h2]
    have m1 : 1 ≤ m := by omega
    have m2 : m ≤ 12 := by omega
    have hm200 : m ≤ 200 := by omega
    have pk' : PotOk (k + 1300) p' := pk'.le (by omega)
    rw [eL]
    clear eL hlot hL hm er L p3 pk3 p1 p2 pk2 b1 r0 r1
    refine seq_i fun N2 hN2 => ?_
    simp [H.lurk, H.may]
    refine ⟨rs, _, hv, lot, m, rfl, hh, ok, m1, hm200, ?_⟩
    simp
    refine ⟨rs, ps, lot, m, rfl, ok, po, hm200, ?_⟩
    simp
    refine hN2 _ ?_
    obtain ⟨F, hF⟩ : ∃ F, F = stF rs.length (adj ps) lot full := ⟨_, rfl⟩
    rw [← hF]
    refine seq_i fun N3 hN3 => ifS_i fun A3 B3 hA3 hB3 => ?_
    have rp := repr_lots ok F hm200
    simp [rp.1, rp.2.1, rp.2.2.1, rp.2.2.2, H.caught]
    refine ⟨rs, _, hv, lot, m, rfl, hh, ok, m1, hm200, ?_⟩
    have rb := repr_bl (isCaught rs.length (adj ps) lot m)
    have gl : (lotsD rs F m).good = true := good_lots ok F m
    have g0 : (D.tup []).good = true := rfl
    have ca : (((List.range m).map fun k => lotD rs (F k)).any fun z => beq z (D.tup [])) = isCaught rs.length (adj ps) lot m := by
      unfold isCaught
      rw [List.any_map, hF]
      congr 1
      funext k
      exact beq_lot0 ok _
    have gl' : (D.tup ((List.range m).map fun k => lotD rs (F k))).good = true := gl
    simp [-List.any_map, lotsD, rb.1, rb.2.1, rb.2.2.1, rb.2.2.2, g0, gl', ca]
    refine hB3 _ ?_
    simp
    refine hN3 _ ?_
    refine seq_i fun N4 hN4 => ?_
    simp only [wSet]
    have bn : (rs.length : Int) < 2 ^ 62 := by omega
    obtain ⟨row, hrow⟩ : ∃ row : Nat → D, row = fun s => .lst ((List.range m).map fun k => numsD rs.length (stF rs.length (adj ps) lot (fun i => decide (i = s)) k)) := ⟨_, rfl⟩
    refine lcM (List.range rs.length) intD row (fun P h => ?_) (by rw [List.length_range]; exact nsz) (fun s ms P h => ?_) ?_
    · simp [ownD, kIx.kIxS] at h ⊢
      rw [rangeD0]
      exact ⟨bn, h⟩
    · simp [H.goes]
      refine ⟨rs, ps, lot, m, s, rfl, List.mem_range.mp ms, ok, po, hm200, ?_⟩
      rw [hrow] at h
      simpa using h
    · simp
      refine hN4 _ ?_
      refine seq_i fun N5 hN5 => ?_
      have bm : (m : Int) < 2 ^ 62 := by omega
      obtain ⟨R, hR⟩ : ∃ R, R = D.lst ((List.range rs.length).map row) := ⟨_, rfl⟩
      rw [← hR]
      refine forW (List.range m) intD (fun P h => by simp [lotsL]; rw [rangeD0]; exact ⟨bm, h⟩) (fun i ρ => ∃ c d e, ρ = [.io 0 p', .fz (ownD rs ps), .fz hv, .fz (lotsL rs lot m), a, b, .fz (lotsD rs F m), .fz (lotsD rs F m), e, c, d, .un, .un, .un, .un, .un, .un, .un, .un, .un, .un, .un, .un] ∧ (e = .ow R ∨ e = .fz R)) ⟨.un, .un, _, rfl, .inl rfl⟩ (fun i hi ρ N6 hW hN6 => ?_) (fun ρ hW => hN5 _ ?_)
      · obtain ⟨c, d, e, rfl, he⟩ := hW
        have hi : i < m := by simpa using hi
        rw [List.getElem_range]
        simp only [gN, List.set_cons_succ, List.set_cons_zero]
        refine seq_i fun N7 hN7 => ?_
        simp only [wSet]
        refine lcI [.io 0 p', .fz (ownD rs ps), .fz hv, .fz (lotsL rs lot m), a, b, .fz (lotsD rs F m), .fz (lotsD rs F m), e, .fz (intD i), d, .un, .un, .un, .un, .un, .un, .un, .un, .un, .un, .un, .un] (List.range rs.length) intD (fun to => F i to) intD (fun ρ' => ∃ e, ρ' = [.io 0 p', .fz (ownD rs ps), .fz hv, .fz (lotsL rs lot m), a, b, .fz (lotsD rs F m), .fz (lotsD rs F m), e, .fz (intD i), d, .un, .un, .un, .un, .un, .un, .un, .un, .un, .un, .un, .un] ∧ (e = .ow R ∨ e = .fz R)) (fun P h => ?_) (by rw [List.length_range]; exact nsz) ⟨e, rfl, he⟩ (fun to mt ρ' hI P N h1 h2 => ?_) (fun ρ' hI => ?_)
        · simp [ownD, kIx.kIxS] at h ⊢
          rw [rangeD0]
          exact ⟨bn, h⟩
        · obtain ⟨e, rfl, he⟩ := hI
          have hto := List.mem_range.mp mt
          simp only [gN, List.set_cons_succ, List.set_cons_zero, tV, wB, rsC, rE, rsN]
          have hG : ∀ s, decide (to ∈ nums rs.length (stF rs.length (adj ps) lot (fun i => decide (i = s)) i)) = stF rs.length (adj ps) lot (fun i => decide (i = s)) i to := fun s => by
            rw [Bool.eq_iff_iff, decide_eq_true_iff, mem_nums]
            simp [hto]
          have inner : ∀ (Q : Sl → En → Prop) (σ : En), (∀ P : List D → En → Prop, P ((List.range rs.length).map row) [.io 0 p', .fz (ownD rs ps), .fz hv, .fz (lotsL rs lot m), a, b, .fz (lotsD rs F m), .fz (lotsD rs F m), .fz R, .fz (intD i), d, .un, .un, .un, .un, .un, .un, .un, .un, .un, .un, .fz (intD to), .un] → iSq (wN 8) noEX σ P) → Q (.ow (.lst ((List.range rs.length).map fun s => .bl (stF rs.length (adj ps) lot (fun i => decide (i = s)) i to)))) [.io 0 p', .fz (ownD rs ps), .fz hv, .fz (lotsL rs lot m), a, b, .fz (lotsD rs F m), .fz (lotsD rs F m), .fz R, .fz (intD i), d, .un, .un, .un, .un, .un, .un, .un, .un, .un, .un, .fz (intD to), .un] → wLc (iSq (wN 8)) (gN 22) Pu.tYes (wOp kIn (rN 21) (rE (wOp kIx (rN 22) (rN 9)))) [22] noEX σ Q := fun Q σ hσ hQ => by
            refine lcM' [.io 0 p', .fz (ownD rs ps), .fz hv, .fz (lotsL rs lot m), a, b, .fz (lotsD rs F m), .fz (lotsD rs F m), .fz R, .fz (intD i), d, .un, .un, .un, .un, .un, .un, .un, .un, .un, .un, .fz (intD to), .un] (List.range rs.length) row (fun s => .bl (stF rs.length (adj ps) lot (fun i => decide (i = s)) i to)) hσ (by rw [List.length_range]; exact nsz) (fun s ms P h => ?_) ?_
            · simp at h
              have g := good_nums (nums rs.length (stF rs.length (adj ps) lot (fun i => decide (i = s)) i))
              have gi : (intD to).good = true := rfl
              rw [hrow]
              simp [kIx.kIxS, intD, at_map hi, numsD, g, good_int2, -List.any_map, any_nums, hG]
              exact h
            · simpa using hQ
          have fin : ∀ (P : D → En → Prop) (N : En → Prop), (F i to = true → P (intD to) [.io 0 p', .fz (ownD rs ps), .fz hv, .fz (lotsL rs lot m), a, b, .fz (lotsD rs F m), .fz (lotsD rs F m), .fz R, .fz (intD i), d, .un, .un, .un, .un, .un, .un, .un, .un, .un, .un, .fz (intD to), .un]) → (F i to = false → N [.io 0 p', .fz (ownD rs ps), .fz hv, .fz (lotsL rs lot m), a, b, .fz (lotsD rs F m), .fz (lotsD rs F m), .fz R, .fz (intD i), d, .un, .un, .un, .un, .un, .un, .un, .un, .un, .un, .fz (intD to), .un]) → Sl.fr (fun dd => withN (looks [.io 0 p', .fz (ownD rs ps), .fz hv, .fz (lotsL rs lot m), a, b, .fz (lotsD rs F m), .fz (lotsD rs F m), .fz R, .fz (intD i), d, .un, .un, .un, .un, .un, .un, .un, .un, .un, .un, .fz (intD to), .un] [Rr.val dd]) fun ds => kAny ds fun s => match s with
              | .fz (.bl bb) => if bb = true then wN 21 noEX [.io 0 p', .fz (ownD rs ps), .fz hv, .fz (lotsL rs lot m), a, b, .fz (lotsD rs F m), .fz (lotsD rs F m), .fz R, .fz (intD i), d, .un, .un, .un, .un, .un, .un, .un, .un, .un, .un, .fz (intD to), .un] fun s ρ4 => Sl.fr (fun dd => P dd ρ4) s else N [.io 0 p', .fz (ownD rs ps), .fz hv, .fz (lotsL rs lot m), a, b, .fz (lotsD rs F m), .fz (lotsD rs F m), .fz R, .fz (intD i), d, .un, .un, .un, .un, .un, .un, .un, .un, .un, .un, .fz (intD to), .un]
              | _ => False) (.ow (.lst ((List.range rs.length).map fun s => .bl (stF rs.length (adj ps) lot (fun i => decide (i = s)) i to)))) := fun P N h1 h2 => by
            have ea : (((List.range rs.length).map fun s => stF rs.length (adj ps) lot (fun i => decide (i = s)) i to).any _root_.id) = F i to := by
              rw [hF]
              show _ = stF rs.length (adj ps) lot (fun _ => true) i to
              rw [stF_starts (show to < rs.length from hto), List.any_map]
              rfl
            simp [-List.any_map, blsOf_m, ea]
            by_cases hf : F i to = true
            · rw [if_pos hf]; exact h1 hf
            · rw [if_neg hf]; exact h2 (by simpa using hf)
          have he' : ∀ P : List D → En → Prop, P ((List.range rs.length).map row) [.io 0 p', .fz (ownD rs ps), .fz hv, .fz (lotsL rs lot m), a, b, .fz (lotsD rs F m), .fz (lotsD rs F m), .fz R, .fz (intD i), d, .un, .un, .un, .un, .un, .un, .un, .un, .un, .un, .fz (intD to), .un] → iSq (wN 8) noEX [.io 0 p', .fz (ownD rs ps), .fz hv, .fz (lotsL rs lot m), a, b, .fz (lotsD rs F m), .fz (lotsD rs F m), e, .fz (intD i), d, .un, .un, .un, .un, .un, .un, .un, .un, .un, .un, .fz (intD to), .un] P := fun P h => by
            rcases he with rfl | rfl
            · simp [hR] at h ⊢; exact h
            · simp [hR] at h ⊢; exact h
          refine inner _ _ he' ?_
          exact fin P N (fun hf => h1 _ hf ⟨.fz R, by simp, .inr rfl⟩) (fun hf => h2 _ hf ⟨.fz R, by simp, .inr rfl⟩)
        · obtain ⟨e', rfl, he'⟩ := hI
          have eN : ((List.range rs.length).filter fun to => F i to).map intD = (nums rs.length (F i)).map intD := rfl
          rw [eN]
          simp
          refine hN7 _ ?_
          refine ifS_i fun A8 B8 hA8 hB8 => ?_
          have gl1 := good_lot ok (F i)
          simp [H.lot, lotsD, kIx.kIxS, intD, at_map hi]
          refine ⟨rs, ps, F i, rfl, ok, ?_⟩
          have bs : beq (lotD rs (F i)) (lotD rs (F i)) = true := beq_same (show D.nob (D.tup _) = true from nobs_strs _)
          simp
          unfold lotD at gl1 bs ⊢
          simp [gl1, bs]
          refine hB8 _ ?_
          simp
          exact hN6 _ ⟨_, _, _, rfl, he'⟩
      · obtain ⟨c, d, e, rfl, he⟩ := hW
        refine right_tail (p' := p') H ok po m1 m2 hF pk' (by omega) (hv := .fz hv) fun p2 σ pk2 => hr _ _ ?_
        simp
        exact q p2 (pk2.le (by omega))
def spLaw : DSp := fun ds Q _ => ∃ ns, ds = [.scr ns] ∧ Q (.fz (.bl true)) [.non]
theorem kp_law {S : Sps} {C : Nat} (h1 : S._law_cells = spCells) (h2 : S._law_pot = spPot) (h3 : S._law_right = spRight) : keeps [.fz] 4 spLaw (w_law S C) := by
  refine keeps_i fun ds Q E hs hl K hn hr => ?_
  obtain ⟨ns, rfl, q⟩ := hs
  unfold w_law
  refine seq_i fun N hN => ?_
  refine wFor_eq ?_
  simp [h1]
  refine ⟨ns, rfl, fun m m1 m2 => ?_⟩
  simp
  refine forJ (List.range m) intD (fun P h => h) (fun i a b _ _ => [.fz (.scr ns), a, b, .un]) ⟨.un, .un, .un, .un, rfl⟩ (fun i hi a b _ _ N hN => ?_) (fun a b _ _ => hN _ ?_)
  · have hi : i < m := by simpa using hi
    rw [List.getElem_range]
    simp only [gN, List.set_cons_succ, List.set_cons_zero]
    refine seq_i fun N1 hN1 => ?_
    simp [h2, intD]
    refine ⟨ns, i, rfl, by omega, by omega, fun p pk => ?_⟩
    simp
    refine hN1 _ ?_
    refine ifS_i fun A B hA hB => ?_
    simp only [Pu.tNot, tV, wB, rsC, rE, rsN]
    refine lcW (List.range 3) intD (fun P h => by simp; exact h) (fun j acc ρ => ∃ p' : D, ρ = [.fz (.scr ns), .fz (.int i), .ow p', .un] ∧ (∃ k, PotOk k p' ∧ k ≤ 5000 * j) ∧ acc = List.replicate j (.bl true)) ⟨p, rfl, ⟨0, pk, by omega⟩, rfl⟩ (fun j hj acc ρ P hW hP => ?_) (fun acc ρ hW => ?_)
    · obtain ⟨p', rfl, ⟨k, pk', hk⟩, rfl⟩ := hW
      have hj : j < 3 := by simpa using hj
      simp [h3]
      refine ⟨p', k, rfl, pk', by omega, fun p2 pk2 => ?_⟩
      simp
      exact hP _ _ (by rw [List.length_replicate]; exact Nat.lt_trans hj (by decide)) ⟨p2, rfl, ⟨_, pk2, by omega⟩, by rw [List.replicate_succ']⟩
    · obtain ⟨p', rfl, ⟨k, pk', hk⟩, rfl⟩ := hW
      simp [blsOf, List.replicate]
      refine hB _ ?_
      simp
      exact hN _ _ .un .un
  · simp
    refine hr _ _ ?_
    simpa using q
end K36

set_option Elab.async false
set_option linter.all false
set_option maxRecDepth 100000
set_option maxHeartbeats 2000000
namespace K36
open PySem L2 PySem.Spec PyProof.Rows Pu TL
theorem let_in : ∀ c, c < 26 → subS ⟨#[97 + c]⟩ "abcdefghijklmnopqrstuvwxyz" = true := by decide +kernel
theorem fig_in : ∀ c, c < 10 → subS ⟨#[48 + c]⟩ "0123456789" = true := by decide +kernel
theorem fig_let : ∀ c, c < 10 → subS ⟨#[48 + c]⟩ "abcdefghijklmnopqrstuvwxyz" = false := by decide +kernel
theorem let_of {c : Nat} (h : 97 ≤ c ∧ c ≤ 122) : subS ⟨#[c]⟩ "abcdefghijklmnopqrstuvwxyz" = true := by
  obtain ⟨d, rfl⟩ : ∃ d, c = 97 + d := ⟨c - 97, by omega⟩
  exact let_in d (by omega)
theorem fig_of {c : Nat} (h : 48 ≤ c ∧ c ≤ 57) : subS ⟨#[c]⟩ "0123456789" = true ∧ subS ⟨#[c]⟩ "abcdefghijklmnopqrstuvwxyz" = false := by
  obtain ⟨d, rfl⟩ : ∃ d, c = 48 + d := ⟨c - 48, by omega⟩
  exact ⟨fig_in d (by omega), fig_let d (by omega)⟩
theorem kp_is_name {S : Sps} {C : Nat} : keeps [.fz] 2 spName (w_is_name S C) := by
  refine keeps_i fun ds Q E hs hl K hn hr => ?_
  obtain ⟨x, rfl, ok, q⟩ := hs
  unfold w_is_name
  obtain ⟨c, r, e, c1, c2⟩ := ok.fst
  have hlen : x.cps.toList = c :: r := e
  have h8 : (x.length : Int) ≤ 8 := by have := ok.len; omega
  have h0 : (0 : Int) < x.length := by have : 0 < x.length := ok.some; omega
  have at0' : atI x.cps.toList 0 = some c := by
    rw [hlen]
    have := at_nat (l := c :: r) (i := 0) (by simp)
    simpa using this
  have lc := let_of ⟨c1, c2⟩
  have sz : x.length ≤ sizeLine := Nat.le_trans ok.len (by decide)
  refine seq_i fun N hN => ifS_i fun A B hA hB => ?_
  simp [-Array.length_toList, kb_str, h0, h8, kIx.kIxS, at0', lc, sz]
  rw [if_pos (show 0 < x.length from ok.some)]
  refine hB _ ?_
  simp only [wPass]
  refine hN _ ?_
  simp only [wRet, wB, rsC, rE, rsN]
  refine lcM x.cps.toList (fun c => .str ⟨#[c]⟩) (fun _ => D.bl true) (fun P h => by simpa [-Array.length_toList] using h) sz (fun d md P h => ?_) ?_
  · have hd := List.all_eq_true.mp ok.all d md
    simp only [Bool.or_eq_true, Bool.and_eq_true, decide_eq_true_eq] at hd
    rcases hd with hd | hd
    · have := let_of hd
      unfold subS at this
      simp at h this
      simp [this]
      exact h
    · have f := fig_of hd
      have f2 := f.2
      unfold subS at f2
      simp at h f2
      simp [f2]
      rw [f.1]
      exact h
  · simp [blsOf_m]
    refine hr _ _ ?_
    have e : (x.cps.all fun _ => true) = true := by
      rw [Array.all_eq_true]
      intro _ _
      rfl
    rw [e]
    simpa using q
def mkS (C : Nat) : Sps where
  is_name := spName
  check_house := spCheck C
  is_lot_of := spIsLotOf C
  bits_of := spBitsOf C
  lot_of := spLotOf C
  near_of := spNearOf C
  full_of := spFullOf C
  are_lots := spAreLots C
  check_looks := spCheckLooks C
  come_from := spComeFrom
  may_lurk_by := spLurkBy C
  may_lurk := spLurk C
  does_catch := spCatch C
  caught := spCatch C
  _law_pot := spPot
  _law_take := spTake
  _law_cells := spCells
  _law_some := spSome
  _law_names := spNames
  _law_house := spDraw
  _law_text := spText
  _law_near := spLnear
  _law_lot := spLlot
  _law_come := spLcome
  _law_may_be := spLmay
  _law_goes := spLgoes
  _law_right := spRight
  law := spLaw
  House := spHouse C
theorem sp_ok (C : Nat) : SpOk (mkS C) C := ⟨rfl, rfl, rfl, rfl, rfl, rfl, rfl, rfl, rfl, rfl⟩
theorem law_ok {K : PySem.W.Frag} {mg : Str → Option Value} (T : Txt K mg) {P : Program} {w : World} {base : Heap} : FnG P w K mg base 11 T.f_law.f T.f_law.fd ["script"] (spL K [.fz] spLaw) := by
  have kn : ∀ {P : Program} {w : World} {base : Heap}, FnG P w K mg base 1 T.f_is_name.f T.f_is_name.fd ["value"] (spL K [.fz] (mkS T.C).is_name) := g_is_name T (mkS T.C) kp_is_name
  have hH : HouseOk K mg (mkS T.C).House := house_ok T (mkS T.C) rfl kn
  have zkp_is_name := g_is_name (P := P) (w := w) (base := base) T (mkS T.C)  kp_is_name
  have zkp_check_house := g_check_house (P := P) (w := w) (base := base) T (mkS T.C)  kp_check_house
  have zkp_is_lot_of := g_is_lot_of (P := P) (w := w) (base := base) T (mkS T.C)  kp_is_lot_of
  have zkp_bits_of := g_bits_of (P := P) (w := w) (base := base) T (mkS T.C)  kp_bits_of
  have zkp_lot_of := g_lot_of (P := P) (w := w) (base := base) T (mkS T.C)  kp_lot_of
  have zkp_near_of := g_near_of (P := P) (w := w) (base := base) T (mkS T.C)  kp_near_of
  have zkp_full_of := g_full_of (P := P) (w := w) (base := base) T (mkS T.C)  kp_full_of
  have zkp_are_lots := g_are_lots (P := P) (w := w) (base := base) T (mkS T.C) zkp_is_lot_of (kp_are_lots rfl)
  have zkp_check_looks := g_check_looks (P := P) (w := w) (base := base) T (mkS T.C) zkp_check_house zkp_are_lots (kp_check_looks rfl rfl)
  have zkp_come_from := g_come_from (P := P) (w := w) (base := base) T (mkS T.C)  kp_come_from
  have zkp_may_lurk_by := g_may_lurk_by (P := P) (w := w) (base := base) T (mkS T.C) zkp_near_of zkp_full_of zkp_bits_of zkp_come_from (kp_may_lurk_by rfl rfl rfl rfl)
  have zkp_may_lurk := g_may_lurk (P := P) (w := w) (base := base) T (mkS T.C) zkp_check_looks zkp_may_lurk_by zkp_lot_of (kp_may_lurk rfl rfl rfl)
  have zkp_does_catch := g_does_catch (P := P) (w := w) (base := base) T (mkS T.C) zkp_may_lurk_by (kp_does_catch rfl)
  have zkp_caught := g_caught (P := P) (w := w) (base := base) T (mkS T.C) zkp_check_looks zkp_does_catch (kp_caught rfl rfl)
  have zkp__law_pot := g__law_pot (P := P) (w := w) (base := base) T (mkS T.C)  kp__law_pot
  have zkp__law_take := g__law_take (P := P) (w := w) (base := base) T (mkS T.C)  kp__law_take
  have zkp__law_cells := g__law_cells (P := P) (w := w) (base := base) T (mkS T.C)  kp__law_cells
  have zkp__law_some := g__law_some (P := P) (w := w) (base := base) T (mkS T.C) zkp__law_take (kp__law_some rfl)
  have zkp__law_names := g__law_names (P := P) (w := w) (base := base) T (mkS T.C) zkp__law_some zkp__law_take (kp__law_names rfl rfl)
  have zkp__law_house := g__law_house (P := P) (w := w) (base := base) T (mkS T.C) zkp__law_names zkp__law_take (kp__law_house rfl rfl)
  have zkp__law_text := g__law_text (P := P) (w := w) (base := base) T (mkS T.C)  kp__law_text
  have zkp__law_near := g__law_near (P := P) (w := w) (base := base) T (mkS T.C)  kp__law_near
  have zkp__law_lot := g__law_lot (P := P) (w := w) (base := base) T (mkS T.C)  kp__law_lot
  have zkp__law_come := g__law_come (P := P) (w := w) (base := base) T (mkS T.C)  kp__law_come
  have zkp__law_may_be := g__law_may_be (P := P) (w := w) (base := base) T (mkS T.C) zkp__law_near zkp__law_lot zkp__law_come (kp__law_may_be rfl rfl rfl)
  have zkp__law_goes := g__law_goes (P := P) (w := w) (base := base) T (mkS T.C) zkp__law_near zkp__law_come (kp__law_goes rfl rfl)
  have zkp__law_right := g__law_right (P := P) (w := w) (base := base) T (mkS T.C) zkp__law_house zkp__law_take zkp__law_text zkp__law_some zkp_may_lurk zkp__law_may_be zkp_caught zkp__law_goes zkp__law_lot hH (kp__law_right (sp_ok T.C))
  exact g_law T (mkS T.C) zkp__law_cells zkp__law_pot zkp__law_right (kp_law rfl rfl rfl)
end K36

set_option Elab.async false
set_option linter.all false
set_option maxRecDepth 100000
set_option maxHeartbeats 2000000
namespace K36
open PySem L2 PySem.Spec PyProof.Rows Pu TL
section
variable {K : PySem.W.Frag} {h : Heap} {mg : Str → Option Value}
theorem fd_mk {nm : Str} {st : Stmt} {f : Addr} {oc : Value} {od an : Option Addr} {sl : Array (Option Value)} {kV dc pm cd ct : Value} (X : K.In h) (G : h.Ns mainGlobals mg)
    (a : PySem.W.nsIn K mainGlobals nm = some (some (.ref f))) (l : K.lookup f = some ⟨oc, od, .func (PySem.W.fnOf nm nm (defArgs st) (defBody st) (defScope st) .none kV dc pm an cd ct), sl⟩) (c : PySem.W.codeIn K cd nm = true) (k : PySem.W.keepIn K (.ref f) = true) : Nonempty (Fd K mg nm st) :=
  ⟨⟨f, _, PySem.W.mg_of X G a, k, fun_mk l c k⟩⟩
/-- a def of a class -/
structure MdAt (K : PySem.W.Frag) (C : Addr) (nm qual : Str) (st : Stmt) where
  d : Mdf K nm qual st
  m : Meth K C nm d.f
theorem md_mk {C : Addr} {nm qual : Str} {st : Stmt} {f : Addr} {oc : Value} {od an : Option Addr} {sl : Array (Option Value)} {kV dc pm cd ct : Value}
    (a : PySem.W.findIn K (.ref C) nm = some (some (.ref f))) (i : PySem.W.isFn K (.ref f) = true) (l : K.lookup f = some ⟨oc, od, .func (PySem.W.fnOf nm qual (defArgs st) (defBody st) (defScope st) .none kV dc pm an cd ct), sl⟩) (c : PySem.W.codeIn K cd qual = true) (k : PySem.W.keepIn K (.ref f) = true) : Nonempty (MdAt K C nm qual st) :=
  ⟨⟨⟨f, _, fun_mk l c k⟩, ⟨a, i, k⟩⟩⟩
/-- a property -/
structure PrAt (K : PySem.W.Frag) (mg : Str → Option Value) (C : Addr) (nm own : Str) where
  p : Addr
  g : Addr
  fd : FuncData
  po : PropOf K C nm p g
  ok : ∀ {P : Program} {w : World} {base : Heap}, FnOk P w K mg base CX0 1 g fd ["self"] (getSp C own)
  bd : Binds K fd ["self"] []
theorem scG_doors : FnScope ["self"] ["self"] (defScope sH_doors) := ⟨rfl, rfl, rfl, by decide +kernel, rfl, by decide +kernel, by decide +kernel⟩
theorem pr_doors {C p f : Addr} {rest : List Value} {oc : Value} {od an : Option Addr} {sl : Array (Option Value)} {kV dc pm cd ct : Value} (cl : Cls K C) (no : NoAttr K C "own_doors")
    (a : PySem.W.findIn K (.ref C) "doors" = some (some (.ref p))) (ge : PySem.W.specialIn K (.ref p) "__get__" = some (some (.builtin "property.__get__"))) (tk : PySem.W.takesIn K (.ref p) = some true) (re : PySem.W.recIn K p "property" = some (.ref f :: rest))
    (l : K.lookup f = some ⟨oc, od, .func (PySem.W.fnOf "doors" "House.doors" (defArgs sH_doors) (defBody sH_doors) (defScope sH_doors) .none kV dc pm an cd ct), sl⟩) (c : PySem.W.codeIn K cd "House.doors" = true) (k : PySem.W.keepIn K (.ref f) = true) : Nonempty (PrAt K mg C "doors" "own_doors") :=
  ⟨⟨p, f, _, ⟨a, ge, tk, ⟨rest, re⟩⟩, fun {P w base} => fn_getter l c scG_doors rfl rfl cl no, (fun_mk (st := sH_doors) l c k).binds (ps := ["self"]) fun _ _ _ _ _ _ us hl => match us, hl with | [_], _ => rfl⟩⟩
theorem scG_rooms : FnScope ["self"] ["self"] (defScope sH_rooms) := ⟨rfl, rfl, rfl, by decide +kernel, rfl, by decide +kernel, by decide +kernel⟩
theorem pr_rooms {C p f : Addr} {rest : List Value} {oc : Value} {od an : Option Addr} {sl : Array (Option Value)} {kV dc pm cd ct : Value} (cl : Cls K C) (no : NoAttr K C "own_rooms")
    (a : PySem.W.findIn K (.ref C) "rooms" = some (some (.ref p))) (ge : PySem.W.specialIn K (.ref p) "__get__" = some (some (.builtin "property.__get__"))) (tk : PySem.W.takesIn K (.ref p) = some true) (re : PySem.W.recIn K p "property" = some (.ref f :: rest))
    (l : K.lookup f = some ⟨oc, od, .func (PySem.W.fnOf "rooms" "House.rooms" (defArgs sH_rooms) (defBody sH_rooms) (defScope sH_rooms) .none kV dc pm an cd ct), sl⟩) (c : PySem.W.codeIn K cd "House.rooms" = true) (k : PySem.W.keepIn K (.ref f) = true) : Nonempty (PrAt K mg C "rooms" "own_rooms") :=
  ⟨⟨p, f, _, ⟨a, ge, tk, ⟨rest, re⟩⟩, fun {P w base} => fn_getter l c scG_rooms rfl rfl cl no, (fun_mk (st := sH_rooms) l c k).binds (ps := ["self"]) fun _ _ _ _ _ _ us hl => match us, hl with | [_], _ => rfl⟩⟩
theorem scG_text : FnScope ["self"] ["self"] (defScope sH_text) := ⟨rfl, rfl, rfl, by decide +kernel, rfl, by decide +kernel, by decide +kernel⟩
theorem pr_text {C p f : Addr} {rest : List Value} {oc : Value} {od an : Option Addr} {sl : Array (Option Value)} {kV dc pm cd ct : Value} (cl : Cls K C) (no : NoAttr K C "own_text")
    (a : PySem.W.findIn K (.ref C) "text" = some (some (.ref p))) (ge : PySem.W.specialIn K (.ref p) "__get__" = some (some (.builtin "property.__get__"))) (tk : PySem.W.takesIn K (.ref p) = some true) (re : PySem.W.recIn K p "property" = some (.ref f :: rest))
    (l : K.lookup f = some ⟨oc, od, .func (PySem.W.fnOf "text" "House.text" (defArgs sH_text) (defBody sH_text) (defScope sH_text) .none kV dc pm an cd ct), sl⟩) (c : PySem.W.codeIn K cd "House.text" = true) (k : PySem.W.keepIn K (.ref f) = true) : Nonempty (PrAt K mg C "text" "own_text") :=
  ⟨⟨p, f, _, ⟨a, ge, tk, ⟨rest, re⟩⟩, fun {P w base} => fn_getter l c scG_text rfl rfl cl no, (fun_mk (st := sH_text) l c k).binds (ps := ["self"]) fun _ _ _ _ _ _ us hl => match us, hl with | [_], _ => rfl⟩⟩
theorem cls_mk {C : Addr} (pg : PySem.W.plainGet K C Str.empty = true) (hd : PySem.W.hasDictIn K C = true) (po : PySem.W.plainOver K C = true) (sa : PySem.W.findIn K (.ref C) "__setattr__" = some (some (.builtin "object.__setattr__"))) : Cls K C := ⟨pg, hd, po, sa⟩
theorem glo_mk {x : Str} {C : Addr} (X : K.In h) (G : h.Ns mainGlobals mg) (a : PySem.W.nsIn K mainGlobals x = some (some (.ref C))) : ∃ C, PySem.W.nsIn K mainGlobals x = some (some (.ref C)) ∧ mg x = some (.ref C) := ⟨C, a, PySem.W.mg_of X G a⟩
theorem str_mk {x z : Str} {t : Tok} (X : K.In h) (G : h.Ns mainGlobals mg) (a : PySem.W.nsIn K mainGlobals x = some (some (.str z t))) : ∃ t, mg x = some (.str z t) := ⟨t, PySem.W.mg_of X G a⟩
theorem int_mk {x : Str} {z : Int} {t : Tok} (X : K.In h) (G : h.Ns mainGlobals mg) (a : PySem.W.nsIn K mainGlobals x = some (some (.int z t))) : ∃ t, mg x = some (.int z t) := ⟨t, PySem.W.mg_of X G a⟩
end
theorem end_mk {K : PySem.W.Frag} {h : Heap} {mg : Str → Option Value} {P : Program} {w : World} {fa C CR : Addr} (X : K.In h) (G : h.Ns mainGlobals mg) (hfa : mg "law" = some (.ref fa))
    (f_is_name : Nonempty (Fd K mg "is_name" s_is_name))
    (f_check_house : Nonempty (Fd K mg "check_house" s_check_house))
    (f_is_lot_of : Nonempty (Fd K mg "is_lot_of" s_is_lot_of))
    (f_bits_of : Nonempty (Fd K mg "bits_of" s_bits_of))
    (f_lot_of : Nonempty (Fd K mg "lot_of" s_lot_of))
    (f_near_of : Nonempty (Fd K mg "near_of" s_near_of))
    (f_full_of : Nonempty (Fd K mg "full_of" s_full_of))
    (f_are_lots : Nonempty (Fd K mg "are_lots" s_are_lots))
    (f_check_looks : Nonempty (Fd K mg "check_looks" s_check_looks))
    (f_come_from : Nonempty (Fd K mg "come_from" s_come_from))
    (f_may_lurk_by : Nonempty (Fd K mg "may_lurk_by" s_may_lurk_by))
    (f_may_lurk : Nonempty (Fd K mg "may_lurk" s_may_lurk))
    (f_does_catch : Nonempty (Fd K mg "does_catch" s_does_catch))
    (f_caught : Nonempty (Fd K mg "caught" s_caught))
    (f__law_pot : Nonempty (Fd K mg "_law_pot" s__law_pot))
    (f__law_take : Nonempty (Fd K mg "_law_take" s__law_take))
    (f__law_cells : Nonempty (Fd K mg "_law_cells" s__law_cells))
    (f__law_some : Nonempty (Fd K mg "_law_some" s__law_some))
    (f__law_names : Nonempty (Fd K mg "_law_names" s__law_names))
    (f__law_house : Nonempty (Fd K mg "_law_house" s__law_house))
    (f__law_text : Nonempty (Fd K mg "_law_text" s__law_text))
    (f__law_near : Nonempty (Fd K mg "_law_near" s__law_near))
    (f__law_lot : Nonempty (Fd K mg "_law_lot" s__law_lot))
    (f__law_come : Nonempty (Fd K mg "_law_come" s__law_come))
    (f__law_may_be : Nonempty (Fd K mg "_law_may_be" s__law_may_be))
    (f__law_goes : Nonempty (Fd K mg "_law_goes" s__law_goes))
    (f__law_right : Nonempty (Fd K mg "_law_right" s__law_right))
    (f_law : Nonempty (Fd K mg "law" s_law))
    (n_abs : PySem.W.nsIn K mainGlobals "abs" = some none)
    (n_all : PySem.W.nsIn K mainGlobals "all" = some none)
    (n_any : PySem.W.nsIn K mainGlobals "any" = some none)
    (n_dict : PySem.W.nsIn K mainGlobals "dict" = some none)
    (n_enumerate : PySem.W.nsIn K mainGlobals "enumerate" = some none)
    (n_int : PySem.W.nsIn K mainGlobals "int" = some none)
    (n_isinstance : PySem.W.nsIn K mainGlobals "isinstance" = some none)
    (n_len : PySem.W.nsIn K mainGlobals "len" = some none)
    (n_list : PySem.W.nsIn K mainGlobals "list" = some none)
    (n_max : PySem.W.nsIn K mainGlobals "max" = some none)
    (n_min : PySem.W.nsIn K mainGlobals "min" = some none)
    (n_range : PySem.W.nsIn K mainGlobals "range" = some none)
    (n_repr : PySem.W.nsIn K mainGlobals "repr" = some none)
    (n_set : PySem.W.nsIn K mainGlobals "set" = some none)
    (n_sorted : PySem.W.nsIn K mainGlobals "sorted" = some none)
    (n_str : PySem.W.nsIn K mainGlobals "str" = some none)
    (n_sum : PySem.W.nsIn K mainGlobals "sum" = some none)
    (n_tuple : PySem.W.nsIn K mainGlobals "tuple" = some none)
    (n_zip : PySem.W.nsIn K mainGlobals "zip" = some none)
    (c_MOST_SIGNS : ∃ t, mg "MOST_SIGNS" = some (.int 8 t))
    (c_LETTERS : ∃ t, mg "LETTERS" = some (.str "abcdefghijklmnopqrstuvwxyz" t))
    (c_FIGURES : ∃ t, mg "FIGURES" = some (.str "0123456789" t))
    (c_MOST_LOOKS : ∃ t, mg "MOST_LOOKS" = some (.int 200 t))
    (c_MOST_DOORS : ∃ t, mg "MOST_DOORS" = some (.int 60 t))
    (c_ROOM : ∃ t, mg "ROOM" = some (.str "room" t))
    (c_DOOR : ∃ t, mg "DOOR" = some (.str "door" t))
    (c_MOST_ROOMS : ∃ t, mg "MOST_ROOMS" = some (.int 16 t))
    (aC : PySem.W.nsIn K mainGlobals "House" = some (some (.ref C))) (clC : Cls K C) (noC_text : NoAttr K C "own_text") (noC_rooms : NoAttr K C "own_rooms") (noC_doors : NoAttr K C "own_doors")
    (icC1 : PySem.W.findIn K (.ref C) "__class__" = some (some (.builtin "object.__class__"))) (icC2 : PySem.W.specialIn K (.builtin "object.__class__") "__get__" = some (some (.builtin "getset_descriptor.__get__"))) (icC3 : PySem.W.takesIn K (.builtin "object.__class__") = some true) (icC4 : PySem.W.mroIn K C (.type "object") = some true)
    (prC_doors : Cls K C → NoAttr K C "own_doors" → Nonempty (PrAt K mg C "doors" "own_doors")) (prC_rooms : Cls K C → NoAttr K C "own_rooms" → Nonempty (PrAt K mg C "rooms" "own_rooms")) (prC_text : Cls K C → NoAttr K C "own_text" → Nonempty (PrAt K mg C "text" "own_text"))
    (mkC : PySem.W.makesIn K C = true) (kpC : PySem.W.keepIn K (.ref C) = true) (inC : Nonempty (MdAt K C "__init__" "House.__init__" sH_init))
    (aR : PySem.W.nsIn K mainGlobals "Reader" = some (some (.ref CR))) (clR : Cls K CR) (noR_rooms : NoAttr K CR "own_rooms") (noR_doors : NoAttr K CR "own_doors")
    (mkR : PySem.W.makesIn K CR = true) (kpR : PySem.W.keepIn K (.ref CR) = true) (inR : Nonempty (MdAt K CR "__init__" "Reader.__init__" sR_init)) (tkR : Nonempty (MdAt K CR "takes" "Reader.takes" sR_takes)) (rmR : Nonempty (MdAt K CR "takes_room" "Reader.takes_room" sR_room)) (tdR : Nonempty (MdAt K CR "told_doors" "Reader.told_doors" sR_told)) :
    ∃ fd : FuncData, (∀ (s : Shared) (u : Value), BindsTo s fd ⟨[u], []⟩ [("script", u)]) ∧ ∀ b : Heap, K.In b → b.Ns mainGlobals mg → FnG P w K mg b 11 fa fd ["script"] (spL K [.fz] spLaw) := by
  obtain ⟨f_is_name⟩ := f_is_name
  obtain ⟨f_check_house⟩ := f_check_house
  obtain ⟨f_is_lot_of⟩ := f_is_lot_of
  obtain ⟨f_bits_of⟩ := f_bits_of
  obtain ⟨f_lot_of⟩ := f_lot_of
  obtain ⟨f_near_of⟩ := f_near_of
  obtain ⟨f_full_of⟩ := f_full_of
  obtain ⟨f_are_lots⟩ := f_are_lots
  obtain ⟨f_check_looks⟩ := f_check_looks
  obtain ⟨f_come_from⟩ := f_come_from
  obtain ⟨f_may_lurk_by⟩ := f_may_lurk_by
  obtain ⟨f_may_lurk⟩ := f_may_lurk
  obtain ⟨f_does_catch⟩ := f_does_catch
  obtain ⟨f_caught⟩ := f_caught
  obtain ⟨f__law_pot⟩ := f__law_pot
  obtain ⟨f__law_take⟩ := f__law_take
  obtain ⟨f__law_cells⟩ := f__law_cells
  obtain ⟨f__law_some⟩ := f__law_some
  obtain ⟨f__law_names⟩ := f__law_names
  obtain ⟨f__law_house⟩ := f__law_house
  obtain ⟨f__law_text⟩ := f__law_text
  obtain ⟨f__law_near⟩ := f__law_near
  obtain ⟨f__law_lot⟩ := f__law_lot
  obtain ⟨f__law_come⟩ := f__law_come
  obtain ⟨f__law_may_be⟩ := f__law_may_be
  obtain ⟨f__law_goes⟩ := f__law_goes
  obtain ⟨f__law_right⟩ := f__law_right
  obtain ⟨f_law⟩ := f_law
  obtain ⟨pd⟩ := prC_doors clC noC_doors
  obtain ⟨pr⟩ := prC_rooms clC noC_rooms
  obtain ⟨pt⟩ := prC_text clC noC_text
  obtain ⟨hi⟩ := inC
  obtain ⟨ri⟩ := inR
  obtain ⟨rt⟩ := tkR
  obtain ⟨rr⟩ := rmR
  obtain ⟨rd⟩ := tdR
  let T : Txt K mg := ⟨C, clC, PySem.W.mg_of X G aC, ⟨clC, icC1, icC2, icC3, icC4⟩, pd.p, pd.g, pd.fd, pd.po, pd.ok, pd.bd, pr.p, pr.g, pr.fd, pr.po, pr.ok, pr.bd, pt.p, pt.g, pt.fd, pt.po, pt.ok, pt.bd, CR, clR, PySem.W.mg_of X G aR, noR_rooms, noR_doors, ri.d, rt.d, rr.d, rd.d, hi.d, ⟨mkR, ri.m.at_, ri.m.fn, kpR⟩, ⟨mkC, hi.m.at_, hi.m.fn, kpC⟩, rt.m, rr.m, rd.m, noC_text, noC_rooms, noC_doors, f_is_name, f_check_house, f_is_lot_of, f_bits_of, f_lot_of, f_near_of, f_full_of, f_are_lots, f_check_looks, f_come_from, f_may_lurk_by, f_may_lurk, f_does_catch, f_caught, f__law_pot, f__law_take, f__law_cells, f__law_some, f__law_names, f__law_house, f__law_text, f__law_near, f__law_lot, f__law_come, f__law_may_be, f__law_goes, f__law_right, f_law, PySem.W.mg_none_of X G n_abs, PySem.W.mg_none_of X G n_all, PySem.W.mg_none_of X G n_any, PySem.W.mg_none_of X G n_dict, PySem.W.mg_none_of X G n_enumerate, PySem.W.mg_none_of X G n_int, PySem.W.mg_none_of X G n_isinstance, PySem.W.mg_none_of X G n_len, PySem.W.mg_none_of X G n_list, PySem.W.mg_none_of X G n_max, PySem.W.mg_none_of X G n_min, PySem.W.mg_none_of X G n_range, PySem.W.mg_none_of X G n_repr, PySem.W.mg_none_of X G n_set, PySem.W.mg_none_of X G n_sorted, PySem.W.mg_none_of X G n_str, PySem.W.mg_none_of X G n_sum, PySem.W.mg_none_of X G n_tuple, PySem.W.mg_none_of X G n_zip, c_MOST_SIGNS, c_LETTERS, c_FIGURES, c_MOST_LOOKS, c_MOST_DOORS, c_ROOM, c_DOOR, c_MOST_ROOMS⟩
  have e := hfa.symm.trans T.f_law.m
  obtain rfl : fa = T.f_law.f := by
    injection e with e
    injection e
  exact ⟨T.f_law.fd, fun s u => .of_eq ((bd_of T.f_law.T fun _ _ _ _ _ _ us ws h1 h2 => match us, ws, h1, h2 with | [_], [], _, _ => rfl : Bd T.f_law.fd ["script"] 1 []) [u] [] rfl rfl), fun b _ _ => law_ok T⟩
end K36

set_option Elab.async false
set_option linter.all false
set_option maxRecDepth 100000
open PySem PySem.W PyProof.Rows
set_option maxHeartbeats 0 in
theorem PySem.Challenge.cw_nowheretohide_k36_whole_where_they_may_b_holds : PySem.Challenge.rw_nowheretohide_k36_whole_where_they_may_b.Holds := by
  w_on; o_law; k_head; (case hw => w_witness2)
  k_fill
  refine Pu.walk_go (ms := K36.spLaw) (k := 11) (n := 63) (x := "script") (l := PySem.Challenge.rw_nowheretohide_k36_whole_where_they_may_b) rfl (by decide) rfl ⟨rfl, by decide, by decide⟩ (fun w h Y => PySem.W.kIn_of Y) ?F (fun zs _ Q E q => ⟨zs, rfl, q⟩)
  case F =>
    intro w mg fa h KX G hmg
    refine' K36.end_mk KX G hmg ?f_is_name ?f_check_house ?f_is_lot_of ?f_bits_of ?f_lot_of ?f_near_of ?f_full_of ?f_are_lots ?f_check_looks ?f_come_from ?f_may_lurk_by ?f_may_lurk ?f_does_catch ?f_caught ?f__law_pot ?f__law_take ?f__law_cells ?f__law_some ?f__law_names ?f__law_house ?f__law_text ?f__law_near ?f__law_lot ?f__law_come ?f__law_may_be ?f__law_goes ?f__law_right ?f_law ?n_abs ?n_all ?n_any ?n_dict ?n_enumerate ?n_int ?n_isinstance ?n_len ?n_list ?n_max ?n_min ?n_range ?n_repr ?n_set ?n_sorted ?n_str ?n_sum ?n_tuple ?n_zip ?c_MOST_SIGNS ?c_LETTERS ?c_FIGURES ?c_MOST_LOOKS ?c_MOST_DOORS ?c_ROOM ?c_DOOR ?c_MOST_ROOMS ?aC ?clC ?noC_text ?noC_rooms ?noC_doors ?icC1 ?icC2 ?icC3 ?icC4 ?prC_doors ?prC_rooms ?prC_text ?mkC ?kpC ?inC ?aR ?clR ?noR_rooms ?noR_doors ?mkR ?kpR ?inR ?tkR ?rmR ?tdR
    case f_is_name => refine' K36.fd_mk KX G ?a ?l ?c ?k; (case a => k_is); (case l => k_is); (case c => k_is); (case k => k_is)
    case f_check_house => refine' K36.fd_mk KX G ?a ?l ?c ?k; (case a => k_is); (case l => k_is); (case c => k_is); (case k => k_is)
    case f_is_lot_of => refine' K36.fd_mk KX G ?a ?l ?c ?k; (case a => k_is); (case l => k_is); (case c => k_is); (case k => k_is)
    case f_bits_of => refine' K36.fd_mk KX G ?a ?l ?c ?k; (case a => k_is); (case l => k_is); (case c => k_is); (case k => k_is)
    case f_lot_of => refine' K36.fd_mk KX G ?a ?l ?c ?k; (case a => k_is); (case l => k_is); (case c => k_is); (case k => k_is)
    case f_near_of => refine' K36.fd_mk KX G ?a ?l ?c ?k; (case a => k_is); (case l => k_is); (case c => k_is); (case k => k_is)
    case f_full_of => refine' K36.fd_mk KX G ?a ?l ?c ?k; (case a => k_is); (case l => k_is); (case c => k_is); (case k => k_is)
    case f_are_lots => refine' K36.fd_mk KX G ?a ?l ?c ?k; (case a => k_is); (case l => k_is); (case c => k_is); (case k => k_is)
    case f_check_looks => refine' K36.fd_mk KX G ?a ?l ?c ?k; (case a => k_is); (case l => k_is); (case c => k_is); (case k => k_is)
    case f_come_from => refine' K36.fd_mk KX G ?a ?l ?c ?k; (case a => k_is); (case l => k_is); (case c => k_is); (case k => k_is)
    case f_may_lurk_by => refine' K36.fd_mk KX G ?a ?l ?c ?k; (case a => k_is); (case l => k_is); (case c => k_is); (case k => k_is)
    case f_may_lurk => refine' K36.fd_mk KX G ?a ?l ?c ?k; (case a => k_is); (case l => k_is); (case c => k_is); (case k => k_is)
    case f_does_catch => refine' K36.fd_mk KX G ?a ?l ?c ?k; (case a => k_is); (case l => k_is); (case c => k_is); (case k => k_is)
    case f_caught => refine' K36.fd_mk KX G ?a ?l ?c ?k; (case a => k_is); (case l => k_is); (case c => k_is); (case k => k_is)
    case f__law_pot => refine' K36.fd_mk KX G ?a ?l ?c ?k; (case a => k_is); (case l => k_is); (case c => k_is); (case k => k_is)
    case f__law_take => refine' K36.fd_mk KX G ?a ?l ?c ?k; (case a => k_is); (case l => k_is); (case c => k_is); (case k => k_is)
    case f__law_cells => refine' K36.fd_mk KX G ?a ?l ?c ?k; (case a => k_is); (case l => k_is); (case c => k_is); (case k => k_is)
    case f__law_some => refine' K36.fd_mk KX G ?a ?l ?c ?k; (case a => k_is); (case l => k_is); (case c => k_is); (case k => k_is)
    case f__law_names => refine' K36.fd_mk KX G ?a ?l ?c ?k; (case a => k_is); (case l => k_is); (case c => k_is); (case k => k_is)
    case f__law_house => refine' K36.fd_mk KX G ?a ?l ?c ?k; (case a => k_is); (case l => k_is); (case c => k_is); (case k => k_is)
    case f__law_text => refine' K36.fd_mk KX G ?a ?l ?c ?k; (case a => k_is); (case l => k_is); (case c => k_is); (case k => k_is)
    case f__law_near => refine' K36.fd_mk KX G ?a ?l ?c ?k; (case a => k_is); (case l => k_is); (case c => k_is); (case k => k_is)
    case f__law_lot => refine' K36.fd_mk KX G ?a ?l ?c ?k; (case a => k_is); (case l => k_is); (case c => k_is); (case k => k_is)
    case f__law_come => refine' K36.fd_mk KX G ?a ?l ?c ?k; (case a => k_is); (case l => k_is); (case c => k_is); (case k => k_is)
    case f__law_may_be => refine' K36.fd_mk KX G ?a ?l ?c ?k; (case a => k_is); (case l => k_is); (case c => k_is); (case k => k_is)
    case f__law_goes => refine' K36.fd_mk KX G ?a ?l ?c ?k; (case a => k_is); (case l => k_is); (case c => k_is); (case k => k_is)
    case f__law_right => refine' K36.fd_mk KX G ?a ?l ?c ?k; (case a => k_is); (case l => k_is); (case c => k_is); (case k => k_is)
    case f_law => refine' K36.fd_mk KX G ?a ?l ?c ?k; (case a => k_is); (case l => k_is); (case c => k_is); (case k => k_is)
    case n_abs => k_is
    case n_all => k_is
    case n_any => k_is
    case n_dict => k_is
    case n_enumerate => k_is
    case n_int => k_is
    case n_isinstance => k_is
    case n_len => k_is
    case n_list => k_is
    case n_max => k_is
    case n_min => k_is
    case n_range => k_is
    case n_repr => k_is
    case n_set => k_is
    case n_sorted => k_is
    case n_str => k_is
    case n_sum => k_is
    case n_tuple => k_is
    case n_zip => k_is
    case c_MOST_SIGNS => refine' K36.int_mk KX G ?a; (case a => k_is)
    case c_LETTERS => refine' K36.str_mk KX G ?a; (case a => k_is)
    case c_FIGURES => refine' K36.str_mk KX G ?a; (case a => k_is)
    case c_MOST_LOOKS => refine' K36.int_mk KX G ?a; (case a => k_is)
    case c_MOST_DOORS => refine' K36.int_mk KX G ?a; (case a => k_is)
    case c_ROOM => refine' K36.str_mk KX G ?a; (case a => k_is)
    case c_DOOR => refine' K36.str_mk KX G ?a; (case a => k_is)
    case c_MOST_ROOMS => refine' K36.int_mk KX G ?a; (case a => k_is)
    case aC => k_is
    case clC => refine' K36.cls_mk ?y1 ?y2 ?y3 ?y4; (case y1 => k_is); (case y2 => k_is); (case y3 => k_is); (case y4 => k_is)
    case noC_text => unfold L2.NoAttr; k_is
    case noC_rooms => unfold L2.NoAttr; k_is
    case noC_doors => unfold L2.NoAttr; k_is
    case icC1 => k_is
    case icC2 => k_is
    case icC3 => k_is
    case icC4 => k_is
    case prC_doors => intro cl no; refine' K36.pr_doors cl no ?z1 ?z2 ?z3 ?z4 ?z5 ?z6 ?z7; (case z1 => k_is); (case z2 => k_is); (case z3 => k_is); (case z4 => k_is); (case z5 => k_is); (case z6 => k_is); (case z7 => k_is)
    case prC_rooms => intro cl no; refine' K36.pr_rooms cl no ?z1 ?z2 ?z3 ?z4 ?z5 ?z6 ?z7; (case z1 => k_is); (case z2 => k_is); (case z3 => k_is); (case z4 => k_is); (case z5 => k_is); (case z6 => k_is); (case z7 => k_is)
    case prC_text => intro cl no; refine' K36.pr_text cl no ?z1 ?z2 ?z3 ?z4 ?z5 ?z6 ?z7; (case z1 => k_is); (case z2 => k_is); (case z3 => k_is); (case z4 => k_is); (case z5 => k_is); (case z6 => k_is); (case z7 => k_is)
    case mkC => k_is
    case kpC => k_is
    case inC => refine' K36.md_mk ?a ?i ?l ?c ?k; (case a => k_is); (case i => k_is); (case l => k_is); (case c => k_is); (case k => k_is)
    case aR => k_is
    case clR => refine' K36.cls_mk ?y1 ?y2 ?y3 ?y4; (case y1 => k_is); (case y2 => k_is); (case y3 => k_is); (case y4 => k_is)
    case noR_rooms => unfold L2.NoAttr; k_is
    case noR_doors => unfold L2.NoAttr; k_is
    case mkR => k_is
    case kpR => k_is
    case inR => refine' K36.md_mk ?a ?i ?l ?c ?k; (case a => k_is); (case i => k_is); (case l => k_is); (case c => k_is); (case k => k_is)
    case tkR => refine' K36.md_mk ?a ?i ?l ?c ?k; (case a => k_is); (case i => k_is); (case l => k_is); (case c => k_is); (case k => k_is)
    case rmR => refine' K36.md_mk ?a ?i ?l ?c ?k; (case a => k_is); (case i => k_is); (case l => k_is); (case c => k_is); (case k => k_is)
    case tdR => refine' K36.md_mk ?a ?i ?l ?c ?k; (case a => k_is); (case i => k_is); (case l => k_is); (case c => k_is); (case k => k_is)

