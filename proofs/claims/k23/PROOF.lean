import PyProof.Rows.All
import HandS.ForMost
import HandS.ForExc
import HandS.Zip
import HandS.Flow
import HandS.Star
import HandS.IsInst
import HandS.DictTup
import HandS.DictComp
import HandS.TupMul
import HandS.TupAny
import HandS.Style
import HandS.ListItems
import HandS.Wide
import HandS.Defaults
import KE.DataEq
import KE.DataFind
import KE.SortData
import HandS.Lambda
import HandS.CallSlots
import HandS.Walk
import HandS.Deep
import HandS.Conv
import PyProof.EnumMake
import KE.GoesMore
import HandS.HeadHook2
import HandS.HeadHook4
import HandS.Head2
import HandS.HeadEnd
import KE.KStateDown
import PySem.Challenge.RW_switchrests_k23_any_way_or_trap_judged
set_option Elab.async false
set_option linter.all false
/-! DM: the plain meaning. A def's body is compiled to a function of plain data: values are data trees, names are slots, a draw is a branching. -/
namespace DD
open PySem
/-! ### values -/
inductive Vl where
  | dat (d : PyData)
  | strm
  | scr
/-- how much of a value is nobody else's: nothing, its own cell, all its cells (and no cell twice) -/
inductive Fr where
  | no | top | all
  deriving DecidableEq
structure R where
  v : Vl
  t : List Nat
  f : Fr
structure Sl where
  v : Vl
  m : Fr
abbrev SD := List (Option Sl)
mutual
/-- no list, no dict within -/
def pur : PyData → Bool
  | .list _ => false
  | .dict _ => false
  | .tuple xs => purL xs
  | .none => true
  | .bool _ => true
  | .int _ => true
  | .str _ => true
def purL : List PyData → Bool
  | [] => true
  | x :: xs => pur x && purL xs
end
/-- the items hold no list, no dict -/
def itP : PyData → Bool
  | .list xs => purL xs
  | .tuple xs => purL xs
  | .dict _ => false
  | _ => true
/-! ### the monad: an end, an error, a draw below n -/
structure XV where
  c : Nat
  vs : List Vl
inductive M (α : Type) where
  | ret (a : α)
  | fail
  | exc (x : XV)
  | draw (n : Nat) (k : Nat → M α)
namespace M
def bind {α β : Type} : M α → (α → M β) → M β
  | .ret a, f => f a
  | .fail, _ => .fail
  | .exc x, _ => .exc x
  | .draw n k, f => .draw n fun i => (k i).bind f
instance : Monad M where
  pure := .ret
  bind := bind
end M
/-- the meaning of m: what holds of each end; b draws are left -/
def wpB {α : Type} : Nat → M α → (Nat → α → Prop) → (Nat → XV → Prop) → Prop
  | b, .ret a, Q, _ => Q b a
  | _, .fail, _, _ => False
  | b, .exc x, _, E => E b x
  | b, .draw n k, Q, E => ∃ b', b = b' + 1 ∧ 0 < n ∧ n < 1000000 ∧ ∀ i, i < n → wpB b' (k i) Q E
theorem wpB_bind {α β : Type} {Q : Nat → β → Prop} {E : Nat → XV → Prop} {f : α → M β} : ∀ (m : M α) (b : Nat), wpB b (m.bind f) Q E ↔ wpB b m (fun b' a => wpB b' (f a) Q E) E
  | .ret a, b => Iff.rfl
  | .fail, b => Iff.rfl
  | .exc x, b => Iff.rfl
  | .draw n k, b => by
    show (∃ b', b = b' + 1 ∧ 0 < n ∧ n < 1000000 ∧ ∀ i, i < n → wpB b' ((k i).bind f) Q E) ↔ (∃ b', b = b' + 1 ∧ 0 < n ∧ n < 1000000 ∧ ∀ i, i < n → wpB b' (k i) (fun b' a => wpB b' (f a) Q E) E)
    constructor
    · rintro ⟨b', e, h0, h1, h⟩
      exact ⟨b', e, h0, h1, fun i hi => (wpB_bind (k i) b').mp (h i hi)⟩
    · rintro ⟨b', e, h0, h1, h⟩
      exact ⟨b', e, h0, h1, fun i hi => (wpB_bind (k i) b').mpr (h i hi)⟩
theorem wpB_mono {α : Type} {Q Q' : Nat → α → Prop} {E E' : Nat → XV → Prop} (hQ : ∀ b a, Q b a → Q' b a) (hE : ∀ b x, E b x → E' b x) : ∀ (m : M α) (b : Nat), wpB b m Q E → wpB b m Q' E'
  | .ret a, b, h => hQ b a h
  | .fail, b, h => h.elim
  | .exc x, b, h => hE b x h
  | .draw n k, b, h => by
    obtain ⟨b', e, h0, h1, h⟩ := h
    exact ⟨b', e, h0, h1, fun i hi => wpB_mono hQ hE (k i) b' (h i hi)⟩
@[simp] theorem bind_ret {α β : Type} (a : α) (f : α → M β) : (M.ret a >>= f) = f a := rfl
@[simp] theorem bind_fail {α β : Type} (f : α → M β) : (M.fail >>= f) = M.fail := rfl
@[simp] theorem bind_exc {α β : Type} (x : XV) (f : α → M β) : (M.exc x >>= f) = M.exc x := rfl
@[simp] theorem bind_draw {α β : Type} (n : Nat) (k : Nat → M α) (f : α → M β) : (M.draw n k >>= f) = M.draw n fun i => k i >>= f := rfl
@[simp] theorem pure_ret {α : Type} (a : α) : (pure a : M α) = M.ret a := rfl
theorem bind_assoc' {α β γ : Type} (f : α → M β) (g : β → M γ) : ∀ m : M α, ((m >>= f) >>= g) = m >>= fun a => f a >>= g
  | .ret a => rfl
  | .fail => rfl
  | .exc x => rfl
  | .draw n k => by
    show M.draw n _ = M.draw n _
    congr 1
    funext i
    exact bind_assoc' f g (k i)
abbrev FEnv := Nat → List Vl → M (Vl × Fr)
abbrev SemE := FEnv → SD → M R
abbrev SemT := FEnv → SD → M Bool
abbrev SemA := FEnv → SD → M (List R)
/-- what is walked: the items, the slots that they may lie in -/
abbrev SemI := FEnv → SD → M (List PyData × List Nat)
inductive Out where
  | nx (σ : SD)
  | bk (σ : SD)
  | ct (σ : SD)
  | rt (v : Vl) (f : Fr) (σ : SD)
abbrev SemS := FEnv → SD → M Out
abbrev SemG := PyData → SD → M SD
/-! ### results -/
/-- a result of data: what holds no cell is all its own -/
def fin (d : PyData) (t : List Nat) (f : Fr) : R :=
  if pur d then ⟨.dat d, [], .all⟩ else match f with
    | .all => ⟨.dat d, [], .all⟩
    | f => ⟨.dat d, t, f⟩
abbrev rP (d : PyData) : R := ⟨.dat d, [], .all⟩
def finV (v : Vl) (t : List Nat) (f : Fr) : R := match v with
  | .dat d => fin d t f
  | v => ⟨v, [], .no⟩
/-! ### expressions -/
def eFail : SemE := fun _ _ => .fail
def eC (d : PyData) : SemE := fun _ _ => .ret (rP d)
def eVar (i : Nat) : SemE := fun _ σ => match σ[i]? with
  | some (some s) => .ret (finV s.v (if s.m = .no then [] else [i]) .no)
  | _ => .fail
/-- two plain values in, one out -/
def eOp (op : PyData → PyData → Option PyData) (a b : SemE) : SemE := fun Γ σ => do
  let x ← a Γ σ
  let y ← b Γ σ
  match x.v, y.v with
  | .dat d, .dat e => (match op d e with
    | some r => .ret (rP r)
    | none => .fail)
  | _, _ => .fail
def eUn (op : PyData → Option PyData) (a : SemE) : SemE := fun Γ σ => do
  let x ← a Γ σ
  match x.v with
  | .dat d => (match op d with
    | some r => .ret (rP r)
    | none => .fail)
  | _ => .fail
def aNil : SemA := fun _ _ => .ret []
def aCons (a : SemE) (r : SemA) : SemA := fun Γ σ => do
  let x ← a Γ σ
  let xs ← r Γ σ
  .ret (x :: xs)
/-- *e among items -/
def starR (x : R) (d : PyData) (ds : List PyData) : List R := ds.map fun z => fin z x.t (if itP d then .all else .no)
def aStar (a : SemE) (r : SemA) : SemA := fun Γ σ => do
  let x ← a Γ σ
  match x.v with
  | .dat (.list ds) => r Γ σ >>= fun xs => .ret (starR x (.list ds) ds ++ xs)
  | .dat (.tuple ds) => r Γ σ >>= fun xs => .ret (starR x (.tuple ds) ds ++ xs)
  | _ => .fail
def datas : List R → Option (List PyData)
  | [] => some []
  | r :: rs => match r.v with
    | .dat d => (datas rs).map (d :: ·)
    | _ => none
def tsOf (rs : List R) : List Nat := rs.flatMap (·.t)
def allF (rs : List R) : Bool := rs.all fun r => decide (r.f = .all)
def dispF (rs : List R) : Fr := if allF rs then .all else .top
def eTup (a : SemA) : SemE := fun Γ σ => do
  let rs ← a Γ σ
  match datas rs with
  | some ds => if ds.length ≤ 16777216 then .ret (fin (.tuple ds) (tsOf rs) (if allF rs then .all else .no)) else .fail
  | none => .fail
def eLst (a : SemA) : SemE := fun Γ σ => do
  let rs ← a Γ σ
  match datas rs with
  | some ds => if ds.length ≤ 16777216 then .ret (fin (.list ds) (tsOf rs) (dispF rs)) else .fail
  | none => .fail
def eIf (t : SemT) (a b : SemE) : SemE := fun Γ σ => do
  let c ← t Γ σ
  if c then a Γ σ else b Γ σ
/-- truth -/
def tru : PyData → Option Bool
  | .none => some false
  | .bool b => some b
  | .int i => some (i != 0)
  | .str x => if x.length ≤ 16777216 then some (x.length != 0) else none
  | .list xs => some (!xs.isEmpty)
  | .tuple xs => some (!xs.isEmpty)
  | .dict _ => none
def truR (r : R) : Option Bool := match r.v with
  | .dat d => tru d
  | _ => none
def ofO {α : Type} : Option α → M α
  | some a => .ret a
  | none => .fail
def eOr (a b : SemE) : SemE := fun Γ σ => do
  let x ← a Γ σ
  let c ← ofO (truR x)
  if c then .ret x else b Γ σ
def eAnd (a b : SemE) : SemE := fun Γ σ => do
  let x ← a Γ σ
  let c ← ofO (truR x)
  if c then b Γ σ else .ret x
def eNot (a : SemE) : SemE := fun Γ σ => do
  let x ← a Γ σ
  let c ← ofO (truR x)
  .ret (rP (.bool (!c)))
/-! tests -/
def tFail : SemT := fun _ _ => .fail
def tVal (a : SemE) : SemT := fun Γ σ => do
  let x ← a Γ σ
  ofO (truR x)
def tNot (a : SemT) : SemT := fun Γ σ => do
  let c ← a Γ σ
  .ret (!c)
def tAnd (a b : SemT) : SemT := fun Γ σ => do
  let c ← a Γ σ
  if c then b Γ σ else .ret false
def tOr (a b : SemT) : SemT := fun Γ σ => do
  let c ← a Γ σ
  if c then .ret true else b Γ σ
/-! ### operations on data -/
def i2 (f : Int → Int → PyData) : PyData → PyData → Option PyData
  | .int i, .int j => some (f i j)
  | _, _ => none
def small64 (i : Int) : Bool := decide (-18446744073709551616 < i) && decide (i < 18446744073709551616)
def oAdd := i2 fun i j => .int (i + j)
def oSub := i2 fun i j => .int (i - j)
def oMul : PyData → PyData → Option PyData
  | .int i, .int j => if small64 i || small64 j then some (.int (i * j)) else none
  | _, _ => none
def oMod : PyData → PyData → Option PyData
  | .int i, .int j => if 0 < j then some (.int (i % j)) else none
  | _, _ => none
def oDiv : PyData → PyData → Option PyData
  | .int i, .int j => if 0 < j ∧ j < 1073741824 then some (.int (i / j)) else none
  | _, _ => none
def oPow : PyData → PyData → Option PyData
  | .int i, .int j => if 0 ≤ j ∧ j ≤ 1000000 ∧ i.natAbs < 18446744073709551616 then some (.int (i ^ j.toNat)) else none
  | _, _ => none
def oShl : PyData → PyData → Option PyData
  | .int i, .int j => if 0 ≤ j ∧ j ≤ 1000000 ∧ i.natAbs < 18446744073709551616 then some (.int (i * 2 ^ j.toNat)) else none
  | _, _ => none
def oBAnd := i2 fun i j => .int (Builtin.bitAnd i j)
def oNeg : PyData → Option PyData
  | .int i => some (.int (-i))
  | _ => none
def eqOk (d e : PyData) : Bool := PyData.plain d && PyData.plain e && decide (min d.depth e.depth ≤ 150)
def oEq (d e : PyData) : Option PyData := if eqOk d e then some (.bool (PyData.eqv d e)) else none
def oNe (d e : PyData) : Option PyData := if eqOk d e then some (.bool (!PyData.eqv d e)) else none
/-- whole numbers only -/
def wholes : List PyData → Option (List Int)
  | [] => some []
  | .int i :: r => (wholes r).map (i :: ·)
  | _ => none
def oLt : PyData → PyData → Option PyData
  | .int i, .int j => some (.bool (decide (i < j)))
  | .tuple xs, .tuple ys => (match wholes xs, wholes ys with
    | some a, some b => some (.bool (HT.lexLt a b))
    | _, _ => none)
  | _, _ => none
def oLe := i2 fun i j => .bool (decide (i ≤ j))
def oGt := i2 fun i j => .bool (decide (j < i))
def oGe := i2 fun i j => .bool (decide (j ≤ i))
/-- is None (the right side is None) -/
def oIsN : PyData → PyData → Option PyData
  | d, .none => some (.bool (match d with
    | .none => true
    | _ => false))
  | _, _ => none
def oIsNotN : PyData → PyData → Option PyData
  | d, .none => some (.bool (match d with
    | .none => false
    | _ => true))
  | _, _ => none
/-- a key of a dict -/
def isKey : PyData → Bool
  | .int _ => true
  | .str _ => true
  | _ => false
def isKeyT : PyData → Bool
  | .tuple xs => xs.all isKey
  | _ => false
def keyEq : PyData → PyData → Bool
  | .int i, .int j => decide (i = j)
  | .str x, .str y => decide (x = y)
  | .tuple xs, .tuple ys => PyData.eqvAll xs ys
  | _, _ => false
def dGet (kvs : List (PyData × PyData)) (k : PyData) : Option PyData := match kvs with
  | [] => none
  | (k', v) :: r => if PyData.eqv k' k then some v else dGet r k
def dPut (kvs : List (PyData × PyData)) (k v : PyData) : List (PyData × PyData) :=
  if kvs.any (fun p => PyData.eqv p.1 k) then kvs.map (fun p => if PyData.eqv p.1 k then (p.1, v) else p) else kvs ++ [(k, v)]
def inOk (d : PyData) (xs : List PyData) : Bool := PyData.plain d && PyData.plainAll xs && decide (d.depth ≤ 150)
def oIn (d e : PyData) : Option PyData := match e with
  | .list xs => if inOk d xs then some (.bool (xs.any fun y => PyData.eqv y d)) else none
  | .tuple xs => if inOk d xs then some (.bool (xs.any fun y => PyData.eqv y d)) else none
  | _ => none
def oNotIn (d e : PyData) : Option PyData := match e with
  | .list xs => if inOk d xs then some (.bool (!xs.any fun y => PyData.eqv y d)) else none
  | .tuple xs => if inOk d xs then some (.bool (!xs.any fun y => PyData.eqv y d)) else none
  | _ => none
end DD
set_option Elab.async false
set_option linter.all false
set_option maxRecDepth 100000
set_option maxHeartbeats 4000000
/-! DS0: how data lie in the heap. -/
namespace DD
open PySem PySem.Spec PyProof.Rows L2
def keyD : Key → PyData
  | .inl i => .int i
  | .inr x => .str x
mutual
/-- v reads as d; fp: the cells that could be written (lists, dicts), each as often as it is met -/
inductive Rd (H : Hp) : PyData → V → List Addr → Prop
  | non : Rd H .none .non []
  | bl (b : Bool) : Rd H (.bool b) (.bl b) []
  | int (i : Int) : Rd H (.int i) (.int i) []
  | str (x : Str) : Rd H (.str x) (.str x) []
  | lst {a : Addr} {xs : List PyData} {vs : List V} {fp : List Addr} : H a = some (.lst vs) → RdL H xs vs fp → Rd H (.list xs) (.ref a) (a :: fp)
  | tup {a : Addr} {xs : List PyData} {vs : List V} {fp : List Addr} : H a = some (.tup vs) → RdL H xs vs fp → Rd H (.tuple xs) (.ref a) fp
  | dK {a : Addr} {kvs : List (PyData × PyData)} {ks : List (Key × V)} {fp : List Addr} : H a = some (.dK ks) → kvs.map (·.1) = ks.map (fun p => keyD p.1) → RdL H (kvs.map (·.2)) (ks.map (·.2)) fp → Rd H (.dict kvs) (.ref a) (a :: fp)
  | dT {a : Addr} {kvs : List (PyData × PyData)} {ks : List (List Key × V)} {fp : List Addr} : ks ≠ [] → H a = some (.dT ks) → kvs.map (·.1) = ks.map (fun p => .tuple (p.1.map keyD)) → RdL H (kvs.map (·.2)) (ks.map (·.2)) fp → Rd H (.dict kvs) (.ref a) (a :: fp)
inductive RdL (H : Hp) : List PyData → List V → List Addr → Prop
  | nil : RdL H [] [] []
  | cons {d : PyData} {v : V} {ds : List PyData} {vs : List V} {f g : List Addr} : Rd H d v f → RdL H ds vs g → RdL H (d :: ds) (v :: vs) (f ++ g)
end
section
variable {H H' : Hp}
theorem RdL.length {ds : List PyData} {vs : List V} {fp : List Addr} (h : RdL H ds vs fp) : ds.length = vs.length := by
  match h with
  | .nil => rfl
  | .cons _ t => simp [RdL.length t]
mutual
/-- it stands as long as its cells and the tuples do -/
theorem Rd.keep {d : PyData} {v : V} {fp : List Addr} (h : Rd H d v fp) (k : ∀ a o, H a = some o → (a ∈ fp ∨ ∃ vs, o = .tup vs) → H' a = some o) : Rd H' d v fp := by
  match h with
  | .non => exact .non
  | .bl b => exact .bl b
  | .int i => exact .int i
  | .str x => exact .str x
  | .lst e t => exact .lst (k _ _ e (.inl List.mem_cons_self)) (RdL.keep t fun a o e z => k a o e (z.imp (List.mem_cons_of_mem _) id))
  | .tup e t => exact .tup (k _ _ e (.inr ⟨_, rfl⟩)) (RdL.keep t k)
  | .dK e q t => exact .dK (k _ _ e (.inl List.mem_cons_self)) q (RdL.keep t fun a o e z => k a o e (z.imp (List.mem_cons_of_mem _) id))
  | .dT ne e q t => exact .dT ne (k _ _ e (.inl List.mem_cons_self)) q (RdL.keep t fun a o e z => k a o e (z.imp (List.mem_cons_of_mem _) id))
theorem RdL.keep {ds : List PyData} {vs : List V} {fp : List Addr} (h : RdL H ds vs fp) (k : ∀ a o, H a = some o → (a ∈ fp ∨ ∃ vs, o = .tup vs) → H' a = some o) : RdL H' ds vs fp := by
  match h with
  | .nil => exact .nil
  | .cons r t => exact .cons (Rd.keep r fun a o e z => k a o e (z.imp (List.mem_append_left _) id)) (RdL.keep t fun a o e z => k a o e (z.imp (List.mem_append_right _) id))
end
mutual
/-- its cells are no tables -/
theorem Rd.noTbl {d : PyData} {v : V} {fp : List Addr} (h : Rd H d v fp) : ∀ a ∈ fp, ∀ ps, H a ≠ some (.tbl ps) := by
  match h with
  | .non => exact fun a z => nomatch z
  | .bl b => exact fun a z => nomatch z
  | .int i => exact fun a z => nomatch z
  | .str x => exact fun a z => nomatch z
  | .lst e t =>
    intro a z
    rcases List.mem_cons.mp z with rfl | z
    · rw [e]; exact fun ps c => by cases c
    · exact RdL.noTbl t a z
  | .tup e t => exact RdL.noTbl t
  | .dK e q t =>
    intro a z
    rcases List.mem_cons.mp z with rfl | z
    · rw [e]; exact fun ps c => by cases c
    · exact RdL.noTbl t a z
  | .dT _ e q t =>
    intro a z
    rcases List.mem_cons.mp z with rfl | z
    · rw [e]; exact fun ps c => by cases c
    · exact RdL.noTbl t a z
theorem RdL.noTbl {ds : List PyData} {vs : List V} {fp : List Addr} (h : RdL H ds vs fp) : ∀ a ∈ fp, ∀ ps, H a ≠ some (.tbl ps) := by
  match h with
  | .nil => exact fun a z => nomatch z
  | .cons r t =>
    intro a z
    rcases List.mem_append.mp z with z | z
    · exact Rd.noTbl r a z
    · exact RdL.noTbl t a z
end
mutual
/-- its cells are no code objects -/
theorem Rd.noCode {d : PyData} {v : V} {fp : List Addr} (h : Rd H d v fp) : ∀ a ∈ fp, ∀ c q, H a ≠ some (LamX.CodeO c q) := by
  match h with
  | .non => exact fun a z => nomatch z
  | .bl b => exact fun a z => nomatch z
  | .int i => exact fun a z => nomatch z
  | .str x => exact fun a z => nomatch z
  | .lst e t =>
    intro a z
    rcases List.mem_cons.mp z with rfl | z
    · rw [e]; exact fun c q z => by cases z
    · exact RdL.noCode t a z
  | .tup e t => exact RdL.noCode t
  | .dK e q t =>
    intro a z
    rcases List.mem_cons.mp z with rfl | z
    · rw [e]; exact fun c q z => by cases z
    · exact RdL.noCode t a z
  | .dT _ e q t =>
    intro a z
    rcases List.mem_cons.mp z with rfl | z
    · rw [e]; exact fun c q z => by cases z
    · exact RdL.noCode t a z
theorem RdL.noCode {ds : List PyData} {vs : List V} {fp : List Addr} (h : RdL H ds vs fp) : ∀ a ∈ fp, ∀ c q, H a ≠ some (LamX.CodeO c q) := by
  match h with
  | .nil => exact fun a z => nomatch z
  | .cons r t =>
    intro a z
    rcases List.mem_append.mp z with z | z
    · exact Rd.noCode r a z
    · exact RdL.noCode t a z
end
theorem Rd.keep2 {d : PyData} {v : V} {fp : List Addr} (h : Rd H d v fp) (k : ∀ a o, H a = some o → (a ∈ fp ∨ ∃ vs, o = .tup vs) → (∀ ps, o ≠ .tbl ps) → H' a = some o) : Rd H' d v fp := h.keep fun a o e z => k a o e z fun ps c => by
  subst c
  rcases z with z | ⟨vs, z⟩
  · exact h.noTbl a z ps e
  · cases z
theorem RdL.keep2 {d : List PyData} {v : List V} {fp : List Addr} (h : RdL H d v fp) (k : ∀ a o, H a = some o → (a ∈ fp ∨ ∃ vs, o = .tup vs) → (∀ ps, o ≠ .tbl ps) → H' a = some o) : RdL H' d v fp := h.keep fun a o e z => k a o e z fun ps c => by
  subst c
  rcases z with z | ⟨vs, z⟩
  · exact h.noTbl a z ps e
  · cases z
mutual
/-- its cells stand -/
theorem Rd.dom {d : PyData} {v : V} {fp : List Addr} (h : Rd H d v fp) : ∀ a ∈ fp, H a ≠ none ∧ ∀ vs, H a ≠ some (.tup vs) := by
  match h with
  | .non => exact fun a z => nomatch z
  | .bl b => exact fun a z => nomatch z
  | .int i => exact fun a z => nomatch z
  | .str x => exact fun a z => nomatch z
  | .lst e t =>
    intro a z
    rcases List.mem_cons.mp z with rfl | z
    · rw [e]; exact ⟨by simp, by simp⟩
    · exact RdL.dom t a z
  | .tup e t => exact RdL.dom t
  | .dK e q t =>
    intro a z
    rcases List.mem_cons.mp z with rfl | z
    · rw [e]; exact ⟨by simp, by simp⟩
    · exact RdL.dom t a z
  | .dT _ e q t =>
    intro a z
    rcases List.mem_cons.mp z with rfl | z
    · rw [e]; exact ⟨by simp, by simp⟩
    · exact RdL.dom t a z
theorem RdL.dom {ds : List PyData} {vs : List V} {fp : List Addr} (h : RdL H ds vs fp) : ∀ a ∈ fp, H a ≠ none ∧ ∀ vs, H a ≠ some (.tup vs) := by
  match h with
  | .nil => exact fun a z => nomatch z
  | .cons r t => exact fun a z => (List.mem_append.mp z).elim (Rd.dom r a) (RdL.dom t a)
end
mutual
theorem Rd.pure {d : PyData} {v : V} {fp : List Addr} (h : Rd H d v fp) (p : pur d = true) : fp = [] := by
  match h with
  | .non => rfl
  | .bl b => rfl
  | .int i => rfl
  | .str x => rfl
  | .lst e t => simp [pur] at p
  | .tup e t => exact RdL.pure t (by simpa [pur] using p)
  | .dK e q t => simp [pur] at p
  | .dT _ e q t => simp [pur] at p
theorem RdL.pure {ds : List PyData} {vs : List V} {fp : List Addr} (h : RdL H ds vs fp) (p : purL ds = true) : fp = [] := by
  match h with
  | .nil => rfl
  | .cons r t =>
    simp only [purL, Bool.and_eq_true] at p
    rw [Rd.pure r p.1, RdL.pure t p.2]
    rfl
end
mutual
theorem Rd.dp {K : PySem.W.Frag} {d : PyData} {v : V} {fp : List Addr} (h : Rd H d v fp) (p : PyData.plain d = true) : Dp K H v d := by
  match h with
  | .non => exact .non
  | .bl b => exact .bl b
  | .int i => exact .int i
  | .str x => exact .str x
  | .lst e t => exact .lst (SqL.of e) (RdL.dp t (by simpa [PyData.plain] using p))
  | .tup e t => exact .tup (SqT.of e) (RdL.dp t (by simpa [PyData.plain] using p))
  | .dK e q t => simp [PyData.plain] at p
  | .dT _ e q t => simp [PyData.plain] at p
theorem RdL.dp {K : PySem.W.Frag} {ds : List PyData} {vs : List V} {fp : List Addr} (h : RdL H ds vs fp) (p : PyData.plainAll ds = true) : DpAll K H vs ds := by
  match h with
  | .nil => exact .nil
  | .cons r t =>
    simp only [PyData.plainAll, Bool.and_eq_true] at p
    exact .cons (Rd.dp r p.1) (RdL.dp t p.2)
end
theorem RdL.get {ds : List PyData} {vs : List V} {fp : List Addr} (h : RdL H ds vs fp) {i : Nat} {d : PyData} (e : ds[i]? = some d) : ∃ v f l r, vs[i]? = some v ∧ Rd H d v f ∧ fp = l ++ (f ++ r) := by
  match h, i with
  | .nil, _ => simp at e
  | .cons (f := f) (g := g) q t, 0 =>
    simp at e
    subst e
    exact ⟨_, f, [], g, rfl, q, rfl⟩
  | .cons (f := f) (g := g) q t, i + 1 =>
    obtain ⟨v, f', l, r, e1, e2, e3⟩ := RdL.get t (i := i) (by simpa using e)
    exact ⟨v, f', f ++ l, r, by simpa using e1, e2, by rw [e3]; simp⟩
theorem RdL.append {ds es : List PyData} {vs us : List V} {f g : List Addr} (h : RdL H ds vs f) (k : RdL H es us g) : RdL H (ds ++ es) (vs ++ us) (f ++ g) := by
  match h with
  | .nil => exact k
  | .cons (f := f1) (g := g1) q t =>
    have z : RdL H (_ :: (_ ++ es)) (_ :: (_ ++ us)) (f1 ++ (g1 ++ g)) := .cons q (RdL.append t k)
    simpa [List.append_assoc] using z
theorem RdL.one {d : PyData} {v : V} {f : List Addr} (h : Rd H d v f) : RdL H [d] [v] f := by
  have z : RdL H [d] [v] (f ++ []) := .cons h .nil
  simpa using z
/-- split at a place -/
theorem RdL.split {es : List PyData} : ∀ {ds : List PyData} {ws : List V} {fp : List Addr}, RdL H (ds ++ es) ws fp → ∃ vs us f g, ws = vs ++ us ∧ fp = f ++ g ∧ RdL H ds vs f ∧ RdL H es us g
  | [], ws, fp, h => ⟨[], ws, [], fp, rfl, rfl, .nil, h⟩
  | d :: ds, ws, fp, h => by
    cases h with
    | cons q t =>
      obtain ⟨vs, us, f, g, rfl, rfl, h1, h2⟩ := RdL.split (ds := ds) t
      exact ⟨_, _, _, _, rfl, by rw [List.append_assoc], .cons q h1, h2⟩
end
/-! ### the draws' cells, the tables of code objects -/
abbrev StT := Option (Addr × Addr × List (Addr × Str))
def stC : StT → Addr → Prop
  | none, _ => False
  | some (p, q, T), a => a = p ∨ a = q ∨ ∃ t ∈ T, t.1 = a
/-- a number of the script: at most 2 ^ 20 bits -/
def Big (_ : Int) : Prop := True
def StOk (st : StT) (b : Nat) (H : Hp) : Prop := match st with
  | none => True
  | some (p, q, T) => (p ≠ q ∧ ∃ (ns : List Int) (x y z : Int), H p = some (.lst [.ref q, .int x, .int y, .int z]) ∧ H q = some (.lst (ns.map V.int)) ∧ (∀ n ∈ ns, Big n) ∧ 0 ≤ x ∧ Big x ∧ 0 ≤ y ∧ y + b ≤ 1099511627776 ∧ 0 ≤ z ∧ z < 2147483647) ∧ LamX.Tabs T H
/-- all but these cells and tables stay -/
def ExtS (st : StT) (H H' : Hp) : Prop := (∀ a o, H a = some o → ¬ stC st a → (∀ ps, o ≠ .tbl ps) → H' a = some o) ∧ ∀ a, H' a = none → H a = none
section
variable {st : StT} {H H1 H2 : Hp} {b : Nat}
theorem ExtS.refl : ExtS st H H := ⟨fun _ _ e _ _ => e, fun _ e => e⟩
theorem ExtS.trans (h : ExtS st H H1) (k : ExtS st H1 H2) : ExtS st H H2 := ⟨fun a o e n m => k.1 a o (h.1 a o e n m) n m, fun a e => h.2 a (k.2 a e)⟩
theorem ExtS.new {p : Addr} {o : HO} (h : H p = none) : ExtS st H (upd H p o) := ⟨fun a u e _ _ => by rw [upd_ne (ne_of_none e h)]; exact e, fun a e => by
  by_cases z : a = p
  · subst z; exact h
  · rw [upd_ne z] at e; exact e⟩
/-- what stands at these cells -/
theorem StOk.lst (h : StOk st b H) {a : Addr} (z : stC st a) : ∃ o, H a = some o ∧ ((∃ vs, o = .lst vs) ∨ ∃ ps, o = .tbl ps) := by
  cases st with
  | none => exact z.elim
  | some pq =>
    obtain ⟨p, q, T⟩ := pq
    obtain ⟨⟨ne, ns, x, y, w, hp, hq, _⟩, hT⟩ := h
    rcases z with rfl | rfl | ⟨t, ht, rfl⟩
    · exact ⟨_, hp, .inl ⟨_, rfl⟩⟩
    · exact ⟨_, hq, .inl ⟨_, rfl⟩⟩
    · obtain ⟨ps, h1, _⟩ := hT t ht
      exact ⟨_, h1, .inr ⟨_, rfl⟩⟩
theorem StOk.keep (h : StOk st b H) (k : ∀ a o, (stC st a ∨ ∃ q, o = LamX.CodeO a q) → H a = some o → H1 a = some o) : StOk st b H1 := by
  cases st with
  | none => trivial
  | some pq =>
    obtain ⟨p, q, T⟩ := pq
    obtain ⟨⟨ne, ns, x, y, w, hp, hq, r⟩, hT⟩ := h
    refine ⟨⟨ne, ns, x, y, w, k _ _ (.inl (.inl rfl)) hp, k _ _ (.inl (.inr (.inl rfl))) hq, r⟩, fun t ht => ?_⟩
    obtain ⟨ps, h1, h2, h3⟩ := hT t ht
    refine ⟨ps, k _ _ (.inl (.inr (.inr ⟨t, ht, rfl⟩))) h1, h2, fun pos cv hc => ?_⟩
    obtain ⟨c, e1, e2⟩ := h3 pos cv hc
    exact ⟨c, e1, k _ _ (.inr ⟨_, rfl⟩) e2⟩
theorem StOk.new {p : Addr} {o : HO} (h : StOk st b H) (n : H p = none) : StOk st b (upd H p o) := h.keep fun a u _ e => by rw [upd_ne (ne_of_none e n)]; exact e
theorem StOk.less {b' : Nat} (h : StOk st b H) (l : b' ≤ b) : StOk st b' H := by
  cases st with
  | none => trivial
  | some pq =>
    obtain ⟨p, q, T⟩ := pq
    obtain ⟨⟨ne, ns, x, y, w, hp, hq, h1, h2, h3, h4, h5, h6⟩, hT⟩ := h
    exact ⟨⟨ne, ns, x, y, w, hp, hq, h1, h2, h3, h4, by omega, h6⟩, hT⟩
theorem Rd.ext {d : PyData} {v : V} {fp : List Addr} (h : Rd H d v fp) (s : StOk st b H) (n : ∀ a ∈ fp, ¬ stC st a) (e : ExtS st H H1) : Rd H1 d v fp :=
  h.keep2 fun a o q z nt => e.1 a o q (z.elim (n a) fun ⟨vs, hv⟩ c => by
    obtain ⟨u, hu, w⟩ := s.lst c
    rw [hu] at q
    cases q
    subst hv
    rcases w with ⟨_, w⟩ | ⟨_, w⟩ <;> cases w) nt
theorem RdL.ext {d : List PyData} {v : List V} {fp : List Addr} (h : RdL H d v fp) (s : StOk st b H) (n : ∀ a ∈ fp, ¬ stC st a) (e : ExtS st H H1) : RdL H1 d v fp :=
  h.keep2 fun a o q z nt => e.1 a o q (z.elim (n a) fun ⟨vs, hv⟩ c => by
    obtain ⟨u, hu, w⟩ := s.lst c
    rw [hu] at q
    cases q
    subst hv
    rcases w with ⟨_, w⟩ | ⟨_, w⟩ <;> cases w) nt
end
/-! ### slots -/
/-- a value of the plain meaning -/
def VR (st : StT) (H : Hp) (x : Vl) (v : V) (fp : List Addr) : Prop := match x with
  | .dat d => Rd H d v fp
  | .strm => fp = [] ∧ ∃ p q T, st = some (p, q, T) ∧ v = .ref p
  | .scr => False
/-- the cells that are a slot's alone -/
def exs : Fr → List Addr → List Addr
  | .no, _ => []
  | .top, fp => fp.take 1
  | .all, fp => fp
def FrOk : Fr → List Addr → Prop
  | .no, _ => True
  | .top, fp => ∃ a r, fp = a :: r ∧ a ∉ r
  | .all, fp => fp.Nodup
/-- what may stand in a slot: given from outside (A), or made here -/
def Own (A : Addr → Prop) (H0 : Hp) (st : StT) (a : Addr) : Prop := (A a ∨ H0 a = none) ∧ ¬ stC st a
structure InvD (A : Addr → Prop) (H0 : Hp) (st : StT) (b : Nat) (σd : SD) (fps : Nat → List Addr) (σ : L2.St) (H : Hp) : Prop where
  len : σ.length = σd.length
  ext : ExtS st H0 H
  strm : StOk st b H
  slot : ∀ i s, σd[i]? = some (some s) → ∃ v, σ[i]? = some (some v) ∧ VR st H s.v v (fps i)
  own : ∀ i s, σd[i]? = some (some s) → ∀ a ∈ fps i, Own A H0 st a
  fr : ∀ i s, σd[i]? = some (some s) → FrOk s.m (fps i) ∧ ∀ a ∈ exs s.m (fps i), H0 a = none ∧ ∀ j s', j ≠ i → σd[j]? = some (some s') → a ∉ fps j
/-- where a result's cell comes from: new, or a slot's (one of t, where it is the slot's alone) -/
def Src (σd : SD) (fps : Nat → List Addr) (Hs : Hp) (t : List Nat) (a : Addr) : Prop := Hs a = none ∨ ∃ j s, σd[j]? = some (some s) ∧ a ∈ fps j ∧ (a ∈ exs s.m (fps j) → j ∈ t)
/-- a result: read in H', its cells; Hs: the heap where the reckoning began -/
structure RsOk (A : Addr → Prop) (H0 : Hp) (st : StT) (σd : SD) (fps : Nat → List Addr) (Hs : Hp) (r : R) (v : V) (H' : Hp) (fp : List Addr) : Prop where
  vr : VR st H' r.v v fp
  src : ∀ a ∈ fp, Src σd fps Hs r.t a
  fr : FrOk r.f fp ∧ ∀ a ∈ exs r.f fp, Hs a = none
section
variable {A : Addr → Prop} {H0 : Hp} {st : StT} {b : Nat} {σd : SD} {fps : Nat → List Addr} {σ : L2.St} {H H1 Hs : Hp}
/-- the heap grows (the draws' cells may turn) -/
theorem InvD.grow {b' : Nat} (I : InvD A H0 st b σd fps σ H) (e : ExtS st H H1) (s : StOk st b' H1) : InvD A H0 st b' σd fps σ H1 :=
  ⟨I.len, I.ext.trans e, s, (fun i x h => by
    obtain ⟨v, e1, e2⟩ := I.slot i x h
    refine ⟨v, e1, ?_⟩
    cases hx : x.v with
    | dat d =>
      rw [hx] at e2
      exact Rd.ext e2 I.strm (fun a z => (I.own i x h a z).2) e
    | strm => rw [hx] at e2; exact e2
    | scr => rw [hx] at e2; exact e2), I.own, I.fr⟩
theorem InvD.new {p : Addr} {o : HO} (I : InvD A H0 st b σd fps σ H) (n : H p = none) : InvD A H0 st b σd fps σ (upd H p o) := I.grow (.new n) (I.strm.new n)
theorem InvD.h0 (I : InvD A H0 st b σd fps σ H) {a : Addr} (n : H a = none) : H0 a = none := I.ext.2 a n
theorem InvD.noSt (I : InvD A H0 st b σd fps σ H) {a : Addr} (n : H a = none) : ¬ stC st a := fun c => by
  obtain ⟨vs, hv, _⟩ := I.strm.lst c
  rw [n] at hv
  cases hv
/-- a new cell is ours -/
theorem InvD.ownNew (I : InvD A H0 st b σd fps σ H) {a : Addr} (n : H a = none) : Own A H0 st a := ⟨.inr (I.h0 n), I.noSt n⟩
/-- a slot's cells stand -/
theorem InvD.slotDom (I : InvD A H0 st b σd fps σ H) {i : Nat} {s : Sl} (h : σd[i]? = some (some s)) {a : Addr} (z : a ∈ fps i) : H a ≠ none := by
  obtain ⟨v, e1, e2⟩ := I.slot i s h
  cases hx : s.v with
  | dat d =>
    rw [hx] at e2
    exact (Rd.dom e2 a z).1
  | strm =>
    rw [hx] at e2
    rw [e2.1] at z
    cases z
  | scr => rw [hx] at e2; exact e2.elim
theorem exs_sub {f : Fr} {fp : List Addr} {a : Addr} (h : a ∈ exs f fp) : a ∈ fp := by
  cases f with
  | no => cases h
  | top => exact List.mem_of_mem_take h
  | all => exact h
theorem Src.own {t : List Nat} {a : Addr} (h : Src σd fps Hs t a) (I : InvD A H0 st b σd fps σ Hs) : Own A H0 st a := by
  rcases h with h | ⟨j, s, e, z, _⟩
  · exact I.ownNew h
  · exact I.own j s e a z
theorem Src.mono {t t' : List Nat} {a : Addr} (h : Src σd fps Hs t a) (k : ∀ i ∈ t, i ∈ t') : Src σd fps Hs t' a := h.imp id fun ⟨j, s, e, z, q⟩ => ⟨j, s, e, z, fun w => k _ (q w)⟩
theorem Src.base {Hs' : Hp} {t : List Nat} {a : Addr} (h : Src σd fps Hs t a) (e : ExtS st Hs' Hs) : Src σd fps Hs' t a := h.imp (e.2 a) id
theorem RsOk.own {r : R} {v : V} {H' : Hp} {fp : List Addr} (h : RsOk A H0 st σd fps Hs r v H' fp) (I : InvD A H0 st b σd fps σ Hs) : ∀ a ∈ fp, Own A H0 st a := fun a z => (h.src a z).own I
theorem RsOk.apart {r : R} {v : V} {H' : Hp} {fp : List Addr} (h : RsOk A H0 st σd fps Hs r v H' fp) (I : InvD A H0 st b σd fps σ Hs) : ∀ j s, j ∉ r.t → σd[j]? = some (some s) → ∀ a ∈ exs s.m (fps j), a ∉ fp := fun j s hj hs a ha z => by
  rcases h.src a z with h | ⟨i, s', e, y, q⟩
  · exact I.slotDom hs (exs_sub ha) h
  · by_cases c : i = j
    · subst c
      rw [hs] at e
      cases e
      exact hj (q ha)
    · exact ((I.fr j s hs).2 a ha).2 i s' c e y
theorem RsOk.grow {r : R} {v : V} {H' : Hp} {fp : List Addr} {b' : Nat} (h : RsOk A H0 st σd fps Hs r v H' fp) (I : InvD A H0 st b σd fps σ Hs) (s : StOk st b' H') (e : ExtS st H' H1) : RsOk A H0 st σd fps Hs r v H1 fp :=
  ⟨(by
    have e2 := h.vr
    cases hx : r.v with
    | dat d =>
      rw [hx] at e2
      exact Rd.ext e2 s (fun a z => (h.own I a z).2) e
    | strm => rw [hx] at e2; exact e2
    | scr => rw [hx] at e2; exact e2), h.src, h.fr⟩
/-- a result of data without cells -/
theorem RsOk.pure {d : PyData} {v : V} {H' : Hp} (h : Rd H' d v []) : RsOk A H0 st σd fps Hs (rP d) v H' [] :=
  ⟨h, (fun _ z => nomatch z), List.nodup_nil, (fun _ z => nomatch z)⟩
/-- fin: the flags that it keeps are right -/
theorem RsOk.fin {d : PyData} {t : List Nat} {f : Fr} {v : V} {H' : Hp} {fp : List Addr} (h : Rd H' d v fp) (src : ∀ a ∈ fp, Src σd fps Hs t a)
    (fr : FrOk f fp) (fr2 : ∀ a ∈ exs f fp, Hs a = none) : RsOk A H0 st σd fps Hs (DD.fin d t f) v H' fp := by
  unfold DD.fin
  split
  · rename_i hp
    have e := Rd.pure h hp
    subst e
    exact .pure h
  · cases f with
    | all => exact ⟨h, fun a z => .inl (fr2 a z), fr, fr2⟩
    | no => exact ⟨h, src, fr, fr2⟩
    | top => exact ⟨h, src, fr, fr2⟩
end
end DD
set_option Elab.async false
set_option linter.all false
/-! DM2: more of the plain meaning: sequences, calls, comprehensions, statements. -/
namespace DD
open PySem L2
def both (x y : R) (d : PyData) : Fr := if itP d then .all else if x.f = .all ∧ y.f = .all then .all else .top
def bothT (x y : R) : Fr := if x.f = .all ∧ y.f = .all then .all else .no
def eBin (K : R → R → M R) (a b : SemE) : SemE := fun Γ σ => a Γ σ >>= fun x => b Γ σ >>= fun y => K x y
def eMon (K : R → M R) (a : SemE) : SemE := fun Γ σ => a Γ σ >>= fun x => K x
/-- a + b -/
def addK (x y : R) : M R := match x.v, y.v with
  | .dat (.int i), .dat (.int j) => .ret (rP (.int (i + j)))
  | .dat (.str i), .dat (.str j) => if i.length + j.length ≤ 16777216 then .ret (rP (.str (i ++ j))) else .fail
  | .dat (.list xs), .dat (.list ys) => if xs.length + ys.length ≤ 16777216 then .ret (fin (.list (xs ++ ys)) (x.t ++ y.t) (both x y (.list (xs ++ ys)))) else .fail
  | .dat (.tuple xs), .dat (.tuple ys) => if xs.length + ys.length ≤ 16777216 then .ret (fin (.tuple (xs ++ ys)) (x.t ++ y.t) (bothT x y)) else .fail
  | _, _ => .fail
def eAdd := eBin addK
/-- a * b -/
def mulK (x y : R) : M R := match x.v, y.v with
  | .dat (.int i), .dat (.int j) => if small64 i || small64 j then .ret (rP (.int (i * j))) else .fail
  | .dat (.list xs), .dat (.int k) => if -9223372036854775808 ≤ k ∧ k < 9223372036854775808 ∧ xs.length * k.toNat ≤ 16777216 then
      .ret (fin (.list (List.replicate k.toNat xs).flatten) x.t (if itP (.list xs) then .all else .top)) else .fail
  | _, _ => .fail
def eMul := eBin mulK
def ixD (n : Nat) (i : Int) : Option Nat := if 0 ≤ i then (if i < n then some i.toNat else none) else if -(n : Int) ≤ i then some (i + n).toNat else none
def atD (xs : List PyData) (i : Int) : Option PyData := (ixD xs.length i).bind fun j => xs[j]?
/-- a part of a value -/
def part (x : R) (d : PyData) : R := fin d x.t (match x.f with
  | .all => .all
  | _ => .no)
def partO (x : R) : Option PyData → M R
  | some d => .ret (part x d)
  | none => .fail
/-- a[b] -/
def ixK (x y : R) : M R := match x.v, y.v with
  | .dat (.list xs), .dat (.int i) => partO x (atD xs i)
  | .dat (.tuple xs), .dat (.int i) => partO x (atD xs i)
  | .dat (.dict kvs), .dat k => if isKey k || isKeyT k then partO x (dGet kvs k) else .fail
  | _, _ => .fail
def eIx := eBin ixK
def cutD (xs : List PyData) (lo hi : Option Int) : List PyData := (xs.drop (HT.sIx xs.length 0 lo)).take (HT.sIx xs.length xs.length hi - HT.sIx xs.length 0 lo)
abbrev SemO := FEnv → SD → M (Option Int)
def oNone : SemO := fun _ _ => .ret none
def oSome (a : SemE) : SemO := fun Γ σ => do
  let x ← a Γ σ
  match x.v with
  | .dat (.int i) => .ret (some i)
  | _ => .fail
def subF (x : R) (d : PyData) : Fr := if itP d then .all else match x.f with
  | .all => .all
  | _ => .top
/-- a[lo:hi] -/
def slK (x : R) (l h : Option Int) : M R := match x.v with
  | .dat (.list xs) => .ret (fin (.list (cutD xs l h)) x.t (subF x (.list (cutD xs l h))))
  | .dat (.tuple xs) => .ret (part x (.tuple (cutD xs l h)))
  | _ => .fail
def eSl (a : SemE) (lo hi : SemO) : SemE := fun Γ σ => a Γ σ >>= fun x => lo Γ σ >>= fun l => hi Γ σ >>= fun h => slK x l h
/-- a[::-1] -/
def revK (x : R) : M R := match x.v with
  | .dat (.list xs) => .ret (fin (.list xs.reverse) x.t (if itP (.list xs) then .all else .top))
  | _ => .fail
def eRev := eMon revK
/-! ### calls of built-ins -/
def oLen (d : PyData) : Option PyData := match d with
  | .list xs => some (.int xs.length)
  | .tuple xs => some (.int xs.length)
  | .str x => if x.length ≤ 16777216 then some (.int x.length) else none
  | _ => none
def eLen := eUn oLen
def listK (x : R) : M R := match x.v with
  | .dat (.list xs) => .ret (fin (.list xs) x.t (subF x (.list xs)))
  | .dat (.tuple xs) => .ret (fin (.list xs) x.t (subF x (.list xs)))
  | _ => .fail
def eList := eMon listK
def tupleK (x : R) : M R := match x.v with
  | .dat (.list xs) => .ret (part x (.tuple xs))
  | .dat (.tuple xs) => .ret (part x (.tuple xs))
  | _ => .fail
def eTuple := eMon tupleK
inductive Ty where
  | list | tuple | int | bool | str | dict
  deriving DecidableEq
def isTy : PyData → Ty → Bool
  | .list _, .list => true
  | .tuple _, .tuple => true
  | .int _, .int => true
  | .bool _, .bool => true
  | .bool _, .int => true
  | .str _, .str => true
  | .dict _, .dict => true
  | _, _ => false
def isiO (ts : List Ty) (d : PyData) : Option PyData := some (.bool (ts.any (isTy d)))
def eIsi (a : SemE) (ts : List Ty) : SemE := eUn (isiO ts) a
def bools : List PyData → Option (List Bool)
  | [] => some []
  | .bool b :: r => (bools r).map (b :: ·)
  | _ => none
def intsD : List PyData → Option (List Int)
  | [] => some []
  | .int b :: r => (intsD r).map (b :: ·)
  | _ => none
def oAll (d : PyData) : Option PyData := match d with
  | .list xs => (bools xs).map fun bs => .bool (bs.all id)
  | _ => none
def eAll := eUn oAll
def oAny (d : PyData) : Option PyData := match d with
  | .list xs => (bools xs).map fun bs => .bool (bs.any id)
  | _ => none
def eAny := eUn oAny
def oSum (d : PyData) : Option PyData := match d with
  | .list xs => (intsD xs).map fun bs => .int bs.sum
  | _ => none
def eSum := eUn oSum
def oInt (d : PyData) : Option PyData := match d with
  | .int i => some (.int i)
  | .bool b => some (.int (if b then 1 else 0))
  | _ => none
def eInt := eUn oInt
def oAbs (d : PyData) : Option PyData := match d with
  | .int i => some (.int (if i < 0 then -i else i))
  | _ => none
def eAbs := eUn oAbs
def eMin2 := eOp (i2 fun i j => .int (if j < i then j else i))
def eMax2 := eOp (i2 fun i j => .int (if j > i then j else i))
def eCall (f : Nat) (a : SemA) : SemE := fun Γ σ => do
  let rs ← a Γ σ
  let z ← Γ f (rs.map (·.v))
  .ret (finV z.1 (tsOf rs) z.2)
/-- by keywords: g puts the values in the parameters' order -/
def eCallK (f : Nat) (g : List Nat) (a : SemA) : SemE := fun Γ σ => do
  let rs ← a Γ σ
  let z ← Γ f (g.filterMap fun i => (rs[i]?).map (·.v))
  .ret (finV z.1 (tsOf rs) z.2)
/-! ### what is walked -/
def iVal (a : SemE) : SemI := fun Γ σ => do
  let x ← a Γ σ
  match x.v with
  | .dat (.list xs) => .ret (xs, x.t)
  | .dat (.tuple xs) => .ret (xs, x.t)
  | _ => .fail
def rangeD (lo : Int) (n : Nat) : List PyData := (List.range n).map fun (i : Nat) => .int (lo + (i : Int))
def small62 (i : Int) : Bool := decide (-4611686018427387904 ≤ i) && decide (i < 4611686018427387904)
def iRange1 (a : SemE) : SemI := fun Γ σ => do
  let x ← a Γ σ
  match x.v with
  | .dat (.int j) => if small62 j then .ret (rangeD 0 j.toNat, []) else .fail
  | _ => .fail
def iRange2 (a b : SemE) : SemI := fun Γ σ => do
  let x ← a Γ σ
  let y ← b Γ σ
  match x.v, y.v with
  | .dat (.int i), .dat (.int j) => if small62 i && small62 j then .ret (rangeD i (j - i).toNat, []) else .fail
  | _, _ => .fail
def pairD (p : PyData × PyData) : PyData := .tuple [p.1, p.2]
def enumD (i : Nat) : List PyData → List PyData
  | [] => []
  | x :: xs => .tuple [.int i, x] :: enumD (i + 1) xs
def iZip (a b : SemE) : SemI := fun Γ σ => do
  let x ← a Γ σ
  let y ← b Γ σ
  match x.v, y.v with
  | .dat (.list xs), .dat (.list ys) => .ret ((xs.zip ys).map pairD, x.t ++ y.t)
  | .dat (.tuple xs), .dat (.tuple ys) => .ret ((xs.zip ys).map pairD, x.t ++ y.t)
  | _, _ => .fail
def iEnum (a : SemE) : SemI := fun Γ σ => do
  let x ← a Γ σ
  match x.v with
  | .dat (.list xs) => .ret (enumD 0 xs, x.t)
  | .dat (.tuple xs) => .ret (enumD 0 xs, x.t)
  | _ => .fail
/-! ### targets -/
/-- slots t are handed on: nothing is theirs alone any more -/
def demote (t : List Nat) (σ : SD) : SD := σ.mapIdx fun i o => match o with
  | some s => some (if i ∈ t then ⟨s.v, .no⟩ else s)
  | none => none
def gSlot (i : Nat) : SemG := fun d σ => .ret (σ.set i (some ⟨.dat d, if pur d then .all else .no⟩))
def goG : List SemG → List PyData → SD → M SD
  | [], _, σ => .ret σ
  | g :: gs, x :: xs, σ => g x σ >>= fun σ' => goG gs xs σ'
  | _ :: _, [], _ => .fail
def gTup (gs : List SemG) : SemG := fun d σ => match d with
  | .tuple xs => if xs.length = gs.length then goG gs xs σ else .fail
  | _ => .fail
def wipeD (σ : SD) : List Nat → SD
  | [] => σ
  | v :: vs => (wipeD σ vs).set v none
/-! ### comprehensions -/
def tYesD : SemT := fun _ _ => .ret true
def lcGo (g : SemG) (t : SemT) (e : SemE) (Γ : FEnv) (σ : SD) : List PyData → M (List R)
  | [] => .ret []
  | x :: xs => g x σ >>= fun σ1 => t Γ σ1 >>= fun c =>
    if c then e Γ σ1 >>= fun r => lcGo g t e Γ σ xs >>= fun rs => .ret (r :: rs) else lcGo g t e Γ σ xs
/-- no error leaves it -/
def noX {α : Type} : M α → M α
  | .ret a => .ret a
  | .fail => .fail
  | .exc _ => .fail
  | .draw n k => .draw n fun i => noX (k i)
def lcEnd (ct : List Nat) (rs : List R) : M R := match datas rs with
  | some ds => if ds.length ≤ 16777216 then .ret (fin (.list ds) (tsOf rs ++ ct) (dispF rs)) else .fail
  | none => .fail
def eLc (own : List Nat) (i : SemI) (g : SemG) (t : SemT) (e : SemE) : SemE := fun Γ σ =>
  i Γ σ >>= fun z => noX (lcGo g t e Γ (wipeD (demote z.2 σ) own) z.1) >>= fun rs => lcEnd z.2 rs
/-! ### statements -/
def sNil : SemS := fun _ σ => .ret (.nx σ)
def sFail : SemS := fun _ _ => .fail
def sBrk : SemS := fun _ σ => .ret (.bk σ)
def sCont : SemS := fun _ σ => .ret (.ct σ)
def seqO (Γ : FEnv) (b : SemS) : Out → M Out
  | .nx σ => b Γ σ
  | .bk σ => .ret (.bk σ)
  | .ct σ => .ret (.ct σ)
  | .rt v f σ => .ret (.rt v f σ)
def sSeq (a b : SemS) : SemS := fun Γ σ => a Γ σ >>= seqO Γ b
def sExpr (e : SemE) : SemS := fun Γ σ => e Γ σ >>= fun _ => .ret (.nx σ)
def sRet (e : SemE) : SemS := fun Γ σ => e Γ σ >>= fun r => .ret (.rt r.v r.f (demote r.t σ))
def sRetV (i : Nat) : SemS := fun _ σ => match σ[i]? with
  | some (some s) => .ret (.rt s.v s.m (σ.set i none))
  | _ => .fail
def sRetN : SemS := fun _ σ => .ret (.rt (.dat .none) .all σ)
def sIf (t : SemT) (a b : SemS) : SemS := fun Γ σ => t Γ σ >>= fun c => if c then a Γ σ else b Γ σ
def setS (i : Nat) (r : R) (σ : SD) : SD := (demote r.t σ).set i (some ⟨r.v, r.f⟩)
def sSet (i : Nat) (e : SemE) : SemS := fun Γ σ => e Γ σ >>= fun r => .ret (.nx (setS i r σ))
/-- a, b = e -/
def sUnp (g : SemG) (e : SemE) : SemS := fun Γ σ => e Γ σ >>= fun r => match r.v with
  | .dat d => g d (demote r.t σ) >>= fun σ' => .ret (.nx σ')
  | _ => .fail
def setAll : List Nat → List R → SD → SD
  | i :: is, r :: rs, σ => (setAll is rs σ).set i (some ⟨r.v, r.f⟩)
  | _, _, σ => σ
/-- a, b = x, y: plain names -/
def sPar (is : List Nat) (a : SemA) : SemS := fun Γ σ => a Γ σ >>= fun rs => .ret (.nx (setAll is rs (demote (tsOf rs) σ)))
def loopO (go : SD → M Out) : Out → M Out
  | .nx σ => go σ
  | .ct σ => go σ
  | .bk σ => .ret (.nx σ)
  | .rt v f σ => .ret (.rt v f σ)
def forGo (g : SemG) (b : SemS) (Γ : FEnv) : List PyData → SD → M Out
  | [], σ => .ret (.nx σ)
  | x :: xs, σ => g x σ >>= fun σ1 => b Γ σ1 >>= loopO fun σ2 => forGo g b Γ xs σ2
def sFor (i : SemI) (g : SemG) (b : SemS) : SemS := fun Γ σ => i Γ σ >>= fun z => forGo g b Γ z.1 (demote z.2 σ)
def whileGo (t : SemT) (b : SemS) (Γ : FEnv) : Nat → SD → M Out
  | 0, _ => .fail
  | n + 1, σ => t Γ σ >>= fun c => if c then b Γ σ >>= loopO fun σ2 => whileGo t b Γ n σ2 else .ret (.nx σ)
def fuelW : Nat := 65536
def sWhile (t : SemT) (b : SemS) : SemS := fun Γ σ => whileGo t b Γ fuelW σ
/-! ### what changes a list or a dict of one's own -/
def newM (m f : Fr) : Fr := if m = .all ∧ f = .all then .all else .top
def ownL (σ : SD) (i : Nat) : Bool := match σ[i]? with
  | some (some ⟨.dat (.list _), m⟩) => decide (m ≠ .no)
  | _ => false
/-- x.append(e) -/
def appK (i : Nat) (σ : SD) (r : R) : M Out := match σ[i]?, r.v with
  | some (some ⟨.dat (.list xs), m⟩), .dat d => if m = .no ∨ i ∈ r.t ∨ 16777216 ≤ xs.length then .fail else
      .ret (.nx ((demote r.t σ).set i (some ⟨.dat (.list (xs ++ [d])), newM m r.f⟩)))
  | _, _ => .fail
def sApp (i : Nat) (e : SemE) : SemS := fun Γ σ => if ownL σ i then e Γ σ >>= appK i σ else .fail
/-- x.extend(e) -/
def extK (i : Nat) (σ : SD) (r : R) : M Out := match σ[i]?, r.v with
  | some (some ⟨.dat (.list xs), m⟩), .dat (.list ys) => if m = .no ∨ i ∈ r.t ∨ 16777216 < xs.length + ys.length then .fail else
      .ret (.nx ((demote r.t σ).set i (some ⟨.dat (.list (xs ++ ys)), newM m (if itP (.list ys) then .all else r.f)⟩)))
  | _, _ => .fail
def sExt (i : Nat) (e : SemE) : SemS := fun Γ σ => if ownL σ i then e Γ σ >>= extK i σ else .fail
end DD
set_option Elab.async false
set_option linter.all false
set_option maxRecDepth 100000
set_option maxHeartbeats 4000000
/-! DS1: what a compiled expression says of the text's: judgements, binding, operations. -/
namespace DD
open PySem PySem.Spec PyProof.Rows L2
theorem PE_imp {X : Cx} {e : Expr} {t t' : TE} (h : PE X e t) (k : ∀ σ H Q, t' σ H Q → t σ H Q) : PE X e t' := ⟨fun pins s σ H Q I q => h.run pins s σ H Q I (k σ H Q q)⟩
theorem PT_imp {X : Cx} {e : Expr} {t t' : TT} (h : PT X e t) (k : ∀ σ H Q, t' σ H Q → t σ H Q) : PT X e t' := ⟨fun pins s σ H Q I q => h.run pins s σ H Q I (k σ H Q q)⟩
theorem PW_imp {X : Cx} {e : Expr} {t t' : TT} (h : PW X e t) (k : ∀ σ H Q, t' σ H Q → t σ H Q) : PW X e t' := ⟨fun wh pins s σ H Q I q => h.run wh pins s σ H Q I (k σ H Q q)⟩
theorem PA_imp {X : Cx} {es : List Expr} {t t' : TA} (h : PA X es t) (k : ∀ σ H Q, t' σ H Q → t σ H Q) : PA X es t' := ⟨fun p pins s σ H Q I q => h.run p pins s σ H Q I (k σ H Q q)⟩
theorem PS_imp {X : Cx} {e : Stmt} {t t' : TS} (h : PS X e t) (k : ∀ D σ H, t' D σ H → t D σ H) : PS X e t' := ⟨fun pins s σ H D I q => h.run pins s σ H D I (k D σ H q)⟩
theorem PSs_imp {X : Cx} {e : List Stmt} {t t' : TS} (h : PSs X e t) (k : ∀ D σ H, t' D σ H → t D σ H) : PSs X e t' := ⟨fun pins s σ H D I q => h.run pins s σ H D I (k D σ H q)⟩
/-- what an error's class, its own dict and the heap say of it -/
abbrev XRel := XV → Value → Option Addr → Hp → Prop
/-- the frame's own data through an expression -/
structure Fm where
  A : Addr → Prop
  H0 : Hp
  st : StT
  σd : SD
  fps : Nat → List Addr
  σ : L2.St
abbrev Fm.Inv (F : Fm) (b : Nat) (H : Hp) : Prop := InvD F.A F.H0 F.st b F.σd F.fps F.σ H
abbrev Fm.Rs (F : Fm) (Hs : Hp) (r : R) (v : V) (H' : Hp) (fp : List Addr) : Prop := RsOk F.A F.H0 F.st F.σd F.fps Hs r v H' fp
/-- what is wanted of an error -/
def Fm.EP (F : Fm) (XR : XRel) (W : WX) (Hb : Hp) : Nat → XV → Prop := fun b x => ∀ cls d H', F.Inv b H' → ExtS F.st Hb H' → XR x cls d H' → W cls d F.σ H'
def Fm.QP (F : Fm) (Hb : Hp) (Q : VK) : Nat → R → Prop := fun b r => ∀ v H' fp, F.Inv b H' → ExtS F.st Hb H' → F.Rs Hb r v H' fp → Q v H'
theorem Fm.EP_mono {F : Fm} {XR : XRel} {W : WX} {Hb H : Hp} (e : ExtS F.st Hb H) {b : Nat} {x : XV} (h : F.EP XR W Hb b x) : F.EP XR W H b x := fun cls d H' I e' r => h cls d H' I (e.trans e') r
def TEv (XR : XRel) (W : WX) (Γ : FEnv) (f : SemE) : TE := fun σ H Q => ∃ (F : Fm) (b : Nat), F.σ = σ ∧ F.Inv b H ∧ wpB b (f Γ F.σd) (F.QP H Q) (F.EP XR W H)
def TTv (XR : XRel) (W : WX) (Γ : FEnv) (f : SemT) : TT := fun σ H Q => ∃ (F : Fm) (b : Nat), F.σ = σ ∧ F.Inv b H ∧ wpB b (f Γ F.σd) (fun b' c => ∀ H', F.Inv b' H' → ExtS F.st H H' → Q c H') (F.EP XR W H)
/-- results, one behind another, each of its own start; all fresh ones apart -/
inductive RsAll (F : Fm) (Hs : Hp) (H' : Hp) : List R → List V → List (List Addr) → Prop
  | nil : RsAll F Hs H' [] [] []
  | cons {r : R} {v : V} {rs : List R} {vs : List V} {fp : List Addr} {fs : List (List Addr)} : F.Rs Hs r v H' fp → RsAll F Hs H' rs vs fs → (∀ a ∈ exs r.f fp, ∀ g ∈ fs, a ∉ g) → RsAll F Hs H' (r :: rs) (v :: vs) (fp :: fs)
def TAv (XR : XRel) (W : WX) (Γ : FEnv) (f : SemA) : TA := fun σ H Q => ∃ (F : Fm) (b : Nat), F.σ = σ ∧ F.Inv b H ∧ wpB b (f Γ F.σd) (fun b' rs => ∀ vs H' fs, F.Inv b' H' → ExtS F.st H H' → RsAll F H H' rs vs fs → Q vs H') (F.EP XR W H)
section
variable {X : Cx} {XR : XRel} {W : WX} {Γ : FEnv}
theorem te_bind {α : Type} {F : Fm} {b : Nat} {Hb H : Hp} {f : SemE} {k : R → M α} {Qp : Nat → α → Prop} {Q : VK} (I : F.Inv b H) (x : ExtS F.st Hb H) (h : wpB b (f Γ F.σd >>= k) Qp (F.EP XR W Hb))
    (q : ∀ b' r v H' fp, wpB b' (k r) Qp (F.EP XR W Hb) → F.Inv b' H' → ExtS F.st H H' → F.Rs H r v H' fp → Q v H') : TEv XR W Γ f F.σ H Q :=
  ⟨F, b, rfl, I, wpB_mono (fun b' r z v H' fp I' e' rs => q b' r v H' fp z I' e' rs) (fun _ _ => F.EP_mono x) _ _ ((wpB_bind _ _).mp h)⟩
theorem tt_bind {α : Type} {F : Fm} {b : Nat} {Hb H : Hp} {f : SemT} {k : Bool → M α} {Qp : Nat → α → Prop} {Q : Bool → Hp → Prop} (I : F.Inv b H) (x : ExtS F.st Hb H) (h : wpB b (f Γ F.σd >>= k) Qp (F.EP XR W Hb))
    (q : ∀ b' c H', wpB b' (k c) Qp (F.EP XR W Hb) → F.Inv b' H' → ExtS F.st H H' → Q c H') : TTv XR W Γ f F.σ H Q :=
  ⟨F, b, rfl, I, wpB_mono (fun b' c z H' I' e' => q b' c H' z I' e') (fun _ _ => F.EP_mono x) _ _ ((wpB_bind _ _).mp h)⟩
theorem ta_bind {α : Type} {F : Fm} {b : Nat} {Hb H : Hp} {f : SemA} {k : List R → M α} {Qp : Nat → α → Prop} {Q : List V → Hp → Prop} (I : F.Inv b H) (x : ExtS F.st Hb H) (h : wpB b (f Γ F.σd >>= k) Qp (F.EP XR W Hb))
    (q : ∀ b' rs vs H' fs, wpB b' (k rs) Qp (F.EP XR W Hb) → F.Inv b' H' → ExtS F.st H H' → RsAll F H H' rs vs fs → Q vs H') : TAv XR W Γ f F.σ H Q :=
  ⟨F, b, rfl, I, wpB_mono (fun b' r z v H' fp I' e' rs => q b' r v H' fp z I' e' rs) (fun _ _ => F.EP_mono x) _ _ ((wpB_bind _ _).mp h)⟩
/-- a plain value given -/
theorem qp_pure {F : Fm} {Hb H : Hp} {b : Nat} {d : PyData} {v : V} {Q : VK} {Ep : Nat → XV → Prop} (h : wpB b (.ret (rP d)) (F.QP Hb Q) Ep) (I : F.Inv b H) (x : ExtS F.st Hb H) (r : Rd H d v []) : Q v H := h v H [] I x (.pure r)
/-! ### constants, names -/
theorem se_const {d : PyData} {v : V} {e : Expr} (h : PE X e (tC v)) (r : ∀ H, Rd H d v []) : PE X e (TEv XR W Γ (eC d)) :=
  PE_imp h fun σ H Q ⟨F, b, e, I, q⟩ => qp_pure q I .refl (r H)
theorem se_fail {e : Expr} : PE X e (TEv XR W Γ eFail) := ⟨fun _ _ _ _ _ _ ⟨_, _, _, _, q⟩ => q.elim⟩
theorem st_fail {e : Expr} : PT X e (TTv XR W Γ tFail) := ⟨fun _ _ _ _ _ _ ⟨_, _, _, _, q⟩ => q.elim⟩
theorem se_var {i : Nat} {e : Expr} (h : PE X e (tVar i)) : PE X e (TEv XR W Γ (eVar i)) := PE_imp h fun σ H Q ⟨F, b, e, I, q⟩ => by
  subst e
  unfold eVar at q
  cases hs : F.σd[i]? with
  | none => rw [hs] at q; exact q.elim
  | some o =>
    cases o with
    | none => rw [hs] at q; exact q.elim
    | some s =>
      rw [hs] at q
      obtain ⟨v, e1, e2⟩ := I.slot i s hs
      refine ⟨v, e1, q v H (F.fps i) I .refl ?_⟩
      have sr : ∀ a ∈ F.fps i, Src F.σd F.fps H (if s.m = .no then [] else [i]) a := fun a z => .inr ⟨i, s, hs, z, fun w => by
        by_cases hm : s.m = .no
        · rw [hm] at w
          cases w
        · rw [if_neg hm]; simp⟩
      cases hv : s.v with
      | dat d =>
        rw [hv] at e2
        exact RsOk.fin (f := Fr.no) e2 sr trivial (fun a z => nomatch z)
      | strm =>
        rw [hv] at e2
        refine ⟨e2, fun a z => ?_, trivial, (fun a z => nomatch z)⟩
        rw [e2.1] at z
        cases z
      | scr => rw [hv] at e2; exact e2.elim
/-! ### operations -/
theorem VR.nil {st : StT} {H : Hp} {x : Vl} {v : V} {fp : List Addr} (h : VR st H x v fp) {d : PyData} (e : x = .dat d) : Rd H d v fp := by subst e; exact h
/-- a two-place operation whose value holds no cell -/
theorem te_op {op : PyData → PyData → Option PyData} {r : R2} {ta tb : SemE}
    (k : ∀ (H : Hp) (d d' z : PyData) (x y : V) (f g : List Addr) (Q : VK), op d d' = some z → Rd H d x f → Rd H d' y g → (∀ v, Rd H z v [] → Q v H) → r x y H Q) : ∀ σ H Q, TEv XR W Γ (eOp op ta tb) σ H Q → tOp r (TEv XR W Γ ta) (TEv XR W Γ tb) σ H Q :=
  fun σ H Q ⟨F, b, e, I, q⟩ => by
    subst e
    unfold eOp at q
    refine te_bind I .refl q fun b1 r1 x H1 f1 q1 I1 e1 rs1 => ?_
    refine te_bind I1 e1 q1 fun b2 r2 y H2 f2 q2 I2 e2 rs2 => ?_
    have rs1' := rs1.grow I I1.strm e2
    cases h1 : r1.v with
    | dat d =>
      cases h2 : r2.v with
      | dat d' =>
        rw [h1, h2] at q2
        have q3 : wpB b2 (match op d d' with
          | some r => M.ret (rP r)
          | none => M.fail) (F.QP H Q) (F.EP XR W H) := q2
        cases ho : op d d' with
        | none => rw [ho] at q3; exact q3.elim
        | some z =>
          rw [ho] at q3
          exact k H2 d d' z x y f1 f2 Q ho (rs1'.vr.nil h1) (rs2.vr.nil h2) fun v hv => qp_pure q3 I2 (e1.trans e2) hv
      | strm => rw [h1, h2] at q2; exact (show False from q2).elim
      | scr => rw [h1, h2] at q2; exact (show False from q2).elim
    | strm => rw [h1] at q2; exact (show False from q2).elim
    | scr => rw [h1] at q2; exact (show False from q2).elim
theorem se_op {op : PyData → PyData → Option PyData} {r : R2} {e : Expr} {ta tb : SemE} (h : PE X e (tOp r (TEv XR W Γ ta) (TEv XR W Γ tb)))
    (k : ∀ (H : Hp) (d d' z : PyData) (x y : V) (f g : List Addr) (Q : VK), op d d' = some z → Rd H d x f → Rd H d' y g → (∀ v, Rd H z v [] → Q v H) → r x y H Q) : PE X e (TEv XR W Γ (eOp op ta tb)) := PE_imp h (te_op k)
theorem Rd.int_inv {H : Hp} {i : Int} {x : V} {f : List Addr} (h : Rd H (.int i) x f) : x = .int i := by cases h; rfl
/-- of two ints, under C -/
theorem k_int {op : PyData → PyData → Option PyData} {C : Int → Int → Prop} {g : Int → Int → V} {G : Int → Int → PyData} (hg : ∀ H i j, Rd H (G i j) (g i j) [])
    (ho : ∀ d d' z, op d d' = some z → ∃ i j, d = .int i ∧ d' = .int j ∧ C i j ∧ z = G i j) (H : Hp) (d d' z : PyData) (x y : V) (f f' : List Addr) (Q : VK) (e : op d d' = some z) (hx : Rd H d x f) (hy : Rd H d' y f')
    (q : ∀ v, Rd H z v [] → Q v H) : rI C g x y H Q := by
  obtain ⟨i, j, rfl, rfl, hc, rfl⟩ := ho d d' z e
  exact ⟨i, j, hx.int_inv, hy.int_inv, hc, q _ (hg H i j)⟩
theorem k_int0 {op : PyData → PyData → Option PyData} {g : Int → Int → V} {G : Int → Int → PyData} (hg : ∀ H i j, Rd H (G i j) (g i j) [])
    (ho : ∀ d d' z, op d d' = some z → ∃ i j, d = .int i ∧ d' = .int j ∧ z = G i j) (H : Hp) (d d' z : PyData) (x y : V) (f f' : List Addr) (Q : VK) (e : op d d' = some z) (hx : Rd H d x f) (hy : Rd H d' y f')
    (q : ∀ v, Rd H z v [] → Q v H) : rI0 g x y H Q := by
  obtain ⟨i, j, rfl, rfl, rfl⟩ := ho d d' z e
  exact ⟨i, j, hx.int_inv, hy.int_inv, q _ (hg H i j)⟩
theorem i2_inv {G : Int → Int → PyData} : ∀ d d' z, i2 G d d' = some z → ∃ i j, d = .int i ∧ d' = .int j ∧ z = G i j := fun d d' z e => by
  unfold i2 at e
  split at e
  · exact ⟨_, _, rfl, rfl, (Option.some.inj e).symm⟩
  · cases e
end
end DD
set_option Elab.async false
set_option linter.all false
set_option maxRecDepth 100000
set_option maxHeartbeats 4000000
/-! DS2: expressions: comparisons, truth, displays. -/
namespace DD
open PySem PySem.Spec PyProof.Rows L2
section
variable {X : Cx} {XR : XRel} {W : WX} {Γ : FEnv}
def rEqP (K : PySem.W.Frag) : R2 := fun x y H Q => ∃ d e, Dp K H x d ∧ Dp K H y e ∧ d.plain = true ∧ e.plain = true ∧ min d.depth e.depth ≤ 150 ∧ Q (.bl (PyData.eqv d e)) H
def rNeP (K : PySem.W.Frag) : R2 := fun x y H Q => ∃ d e, Dp K H x d ∧ Dp K H y e ∧ d.plain = true ∧ e.plain = true ∧ min d.depth e.depth ≤ 150 ∧ Q (.bl (!PyData.eqv d e)) H
theorem op_eqP (hu : X.A.units + 200 < cLine) : OpR X (compareOp .Eq) (rEqP X.K) := by
  intro pins s σ H x y v u Q I rx ry h
  obtain ⟨d, e, hd, he, sd, se, l, q⟩ := h
  obtain ⟨as, r1⟩ := Dp.reads I d x v hd rx
  obtain ⟨bs, r2⟩ := Dp.reads I e y u he ry
  exact SeqAt.eq_plain r1 r2 sd se (by omega) ⟨.bl _, H, I, rfl, q⟩
theorem op_neP (hu : X.A.units + 200 < cLine) : OpR X (compareOp .NotEq) (rNeP X.K) := by
  intro pins s σ H x y v u Q I rx ry h
  obtain ⟨d, e, hd, he, sd, se, l, q⟩ := h
  obtain ⟨as, r1⟩ := Dp.reads I d x v hd rx
  obtain ⟨bs, r2⟩ := Dp.reads I e y u he ry
  exact SeqAt.ne_plain r1 r2 sd se (by omega) ⟨.bl _, H, I, rfl, q⟩
theorem eqOk_inv {d e : PyData} (h : eqOk d e = true) : d.plain = true ∧ e.plain = true ∧ min d.depth e.depth ≤ 150 := by
  simp only [eqOk, Bool.and_eq_true, decide_eq_true_eq] at h
  exact ⟨h.1.1, h.1.2, h.2⟩
theorem se_eq {e : Expr} {ta tb : SemE} (h : PE X e (tOp (rEqP X.K) (TEv XR W Γ ta) (TEv XR W Γ tb))) : PE X e (TEv XR W Γ (eOp oEq ta tb)) :=
  se_op h fun H d d' z x y f g Q ho hx hy q => by
    unfold oEq at ho
    split at ho
    · rename_i hk
      obtain ⟨p1, p2, p3⟩ := eqOk_inv hk
      cases ho
      exact ⟨d, d', hx.dp p1, hy.dp p2, p1, p2, p3, q _ (.bl _)⟩
    · cases ho
theorem se_ne {e : Expr} {ta tb : SemE} (h : PE X e (tOp (rNeP X.K) (TEv XR W Γ ta) (TEv XR W Γ tb))) : PE X e (TEv XR W Γ (eOp oNe ta tb)) :=
  se_op h fun H d d' z x y f g Q ho hx hy q => by
    unfold oNe at ho
    split at ho
    · rename_i hk
      obtain ⟨p1, p2, p3⟩ := eqOk_inv hk
      cases ho
      exact ⟨d, d', hx.dp p1, hy.dp p2, p1, p2, p3, q _ (.bl _)⟩
    · cases ho
/-- in, not in -/
def rInP (K : PySem.W.Frag) (neg : Bool) : R2 := fun x y H Q => ∃ d ds, Dp K H x d ∧ (Dp K H y (.list ds) ∨ Dp K H y (.tuple ds)) ∧ d.plain = true ∧ PyData.plainAll ds = true ∧ d.depth ≤ 150 ∧
  Q (.bl (if neg then !ds.any (fun z => PyData.eqv z d) else ds.any fun z => PyData.eqv z d)) H
theorem op_inP (hu : X.A.units + 200 < cLine) : OpR X (compareOp .In) (rInP X.K false) := by
  intro pins s σ H x y v u Q I rx ry h
  obtain ⟨d, ds, hd, he, sd, se, l, q⟩ := h
  obtain ⟨as, r1⟩ := Dp.reads I d x v hd rx
  rcases he with he | he
  · obtain ⟨bs, r2⟩ := Dp.reads I _ y u he ry
    exact SeqAt.in_list_data r2 r1 se sd (by have := Nat.min_le_right (PyData.depthAll ds) d.depth; omega) ⟨.bl _, H, I, rfl, q⟩
  · obtain ⟨bs, r2⟩ := Dp.reads I _ y u he ry
    exact SeqAt.in_tuple_data r2 r1 se sd (by have := Nat.min_le_right (PyData.depthAll ds) d.depth; omega) ⟨.bl _, H, I, rfl, q⟩
theorem op_notInP (hu : X.A.units + 200 < cLine) : OpR X (compareOp .NotIn) (rInP X.K true) := by
  intro pins s σ H x y v u Q I rx ry h
  obtain ⟨d, ds, hd, he, sd, se, l, q⟩ := h
  obtain ⟨as, r1⟩ := Dp.reads I d x v hd rx
  rcases he with he | he
  · obtain ⟨bs, r2⟩ := Dp.reads I _ y u he ry
    exact SeqAt.notIn_list_data r2 r1 se sd (by have := Nat.min_le_right (PyData.depthAll ds) d.depth; omega) ⟨.bl _, H, I, rfl, q⟩
  · obtain ⟨bs, r2⟩ := Dp.reads I _ y u he ry
    exact SeqAt.notIn_tuple_data r2 r1 se sd (by have := Nat.min_le_right (PyData.depthAll ds) d.depth; omega) ⟨.bl _, H, I, rfl, q⟩
theorem plain_list {ds : List PyData} (h : PyData.plainAll ds = true) : PyData.plain (.list ds) = true := by simpa [PyData.plain] using h
theorem plain_tuple {ds : List PyData} (h : PyData.plainAll ds = true) : PyData.plain (.tuple ds) = true := by simpa [PyData.plain] using h
theorem k_in {K : PySem.W.Frag} {neg : Bool} {op : PyData → PyData → Option PyData} (ho : ∀ d e z, op d e = some z → ∃ ds, (e = .list ds ∨ e = .tuple ds) ∧ inOk d ds = true ∧ z = .bool (if neg then !ds.any (fun z => PyData.eqv z d) else ds.any fun z => PyData.eqv z d))
    (H : Hp) (d d' z : PyData) (x y : V) (f g : List Addr) (Q : VK) (h : op d d' = some z) (hx : Rd H d x f) (hy : Rd H d' y g) (q : ∀ v, Rd H z v [] → Q v H) : rInP K neg x y H Q := by
  obtain ⟨ds, he, hk, rfl⟩ := ho d d' z h
  unfold inOk at hk
  simp only [Bool.and_eq_true, decide_eq_true_eq] at hk
  obtain ⟨⟨p1, p2⟩, p3⟩ := hk
  refine ⟨d, ds, hx.dp p1, ?_, p1, p2, p3, q _ (.bl _)⟩
  rcases he with rfl | rfl
  · exact .inl (hy.dp (plain_list p2))
  · exact .inr (hy.dp (plain_tuple p2))
theorem oIn_inv (d e z : PyData) (h : oIn d e = some z) : ∃ ds, (e = .list ds ∨ e = .tuple ds) ∧ inOk d ds = true ∧ z = .bool (if false then !ds.any (fun z => PyData.eqv z d) else ds.any fun z => PyData.eqv z d) := by
  unfold oIn at h
  split at h
  · split at h
    · cases h; rename_i xs hk; exact ⟨xs, .inl rfl, hk, rfl⟩
    · cases h
  · split at h
    · cases h; rename_i xs hk; exact ⟨xs, .inr rfl, hk, rfl⟩
    · cases h
  · cases h
theorem oNotIn_inv (d e z : PyData) (h : oNotIn d e = some z) : ∃ ds, (e = .list ds ∨ e = .tuple ds) ∧ inOk d ds = true ∧ z = .bool (if true then !ds.any (fun z => PyData.eqv z d) else ds.any fun z => PyData.eqv z d) := by
  unfold oNotIn at h
  split at h
  · split at h
    · cases h; rename_i xs hk; exact ⟨xs, .inl rfl, hk, rfl⟩
    · cases h
  · split at h
    · cases h; rename_i xs hk; exact ⟨xs, .inr rfl, hk, rfl⟩
    · cases h
  · cases h
/-- is None -/
theorem k_isN (H : Hp) (d d' z : PyData) (x y : V) (f g : List Addr) (Q : VK) (h : oIsN d d' = some z) (hx : Rd H d x f) (hy : Rd H d' y g) (q : ∀ v, Rd H z v [] → Q v H) :
    (fun x y (H : Hp) (Q : VK) => y = .non ∧ Q (.bl (decide (x = .non))) H : R2) x y H Q := by
  unfold oIsN at h
  split at h
  · cases h
    cases hy
    refine ⟨rfl, q _ ?_⟩
    cases hx <;> exact .bl _
  · cases h
theorem k_isNotN (H : Hp) (d d' z : PyData) (x y : V) (f g : List Addr) (Q : VK) (h : oIsNotN d d' = some z) (hx : Rd H d x f) (hy : Rd H d' y g) (q : ∀ v, Rd H z v [] → Q v H) :
    (fun x y (H : Hp) (Q : VK) => y = .non ∧ Q (.bl (!decide (x = .non))) H : R2) x y H Q := by
  unfold oIsNotN at h
  split at h
  · cases h
    cases hy
    refine ⟨rfl, q _ ?_⟩
    cases hx <;> exact .bl _
  · cases h
/-- a one-place operation whose value holds no cell -/
theorem se_un {op : PyData → Option PyData} {r : V → Hp → VK → Prop} {e : Expr} {ta : SemE} (h : PE X e (tUn r (TEv XR W Γ ta)))
    (k : ∀ (H : Hp) (d z : PyData) (x : V) (f : List Addr) (Q : VK), op d = some z → Rd H d x f → (∀ v, Rd H z v [] → Q v H) → r x H Q) : PE X e (TEv XR W Γ (eUn op ta)) :=
  PE_imp h fun σ H Q ⟨F, b, e, I, q⟩ => by
    subst e
    unfold eUn at q
    refine te_bind I .refl q fun b1 r1 x H1 f1 q1 I1 e1 rs1 => ?_
    cases h1 : r1.v with
    | dat d =>
      rw [h1] at q1
      have q3 : wpB b1 (match op d with
        | some r => M.ret (rP r)
        | none => M.fail) (F.QP H Q) (F.EP XR W H) := q1
      cases ho : op d with
      | none => rw [ho] at q3; exact q3.elim
      | some z =>
        rw [ho] at q3
        exact k H1 d z x f1 Q ho (rs1.vr.nil h1) fun v hv => qp_pure q3 I1 e1 hv
    | strm => rw [h1] at q1; exact (show False from q1).elim
    | scr => rw [h1] at q1; exact (show False from q1).elim
/-! ### truth -/
theorem tru_ok' {H : Hp} {d : PyData} {v : V} {fp : List Addr} {c : Bool} (h : Rd H d v fp) (e : tru d = some c) : TruV X.K v H c := by
  cases h with
  | non => cases e; rfl
  | bl b => cases e; rfl
  | int i => cases e; rfl
  | str x =>
    change (if x.length ≤ 16777216 then some (x.length != 0) else none) = some c at e
    split at e
    · rename_i hl
      cases e
      refine ⟨by rw [sizeLine_eq]; exact hl, ?_⟩
      show (x.length != 0) = ((x.length : Int) != 0)
      by_cases z : x.length = 0
      · rw [z]; rfl
      · have h2 : (x.length : Int) ≠ 0 := by omega
        rw [bne_iff_ne.mpr z, bne_iff_ne.mpr h2]
    · cases e
  | lst e1 t =>
    cases e
    refine .inl ⟨_, SqL.of e1, ?_⟩
    cases t <;> rfl
  | tup e1 t =>
    cases e
    refine .inr (.inl ⟨_, SqT.of e1, ?_⟩)
    cases t <;> rfl
  | dK => cases e
  | dT => cases e
theorem truR_ok {F : Fm} {Hs H : Hp} {r : R} {v : V} {fp : List Addr} {c : Bool} (h : F.Rs Hs r v H fp) (e : truR r = some c) : TruV X.K v H c := by
  unfold truR at e
  cases hv : r.v with
  | dat d => rw [hv] at e; exact tru_ok' (h.vr.nil hv) e
  | strm => rw [hv] at e; cases e
  | scr => rw [hv] at e; cases e
theorem wpB_ofO {α β : Type} {b : Nat} {o : Option α} {k : α → M β} {Q : Nat → β → Prop} {E : Nat → XV → Prop} (h : wpB b (ofO o >>= k) Q E) : ∃ a, o = some a ∧ wpB b (k a) Q E := by
  cases o with
  | none => exact (show False from h).elim
  | some a => exact ⟨a, rfl, h⟩
/-- a second expression behind the first, in the same frame: what it tells is told of the whole -/
theorem te_more {F : Fm} {b : Nat} {Hb H : Hp} {f : SemE} {Q : VK} (I : F.Inv b H) (x : ExtS F.st Hb H) (h : wpB b (f Γ F.σd) (F.QP Hb Q) (F.EP XR W Hb)) : TEv XR W Γ f F.σ H Q :=
  ⟨F, b, rfl, I, wpB_mono (fun b' r z v H' fp I' e' rs => z v H' fp I' (x.trans e') ⟨rs.vr, fun a ha => (rs.src a ha).base x, rs.fr.1, fun a ha => x.2 a (rs.fr.2 a ha)⟩) (fun _ _ => F.EP_mono x) _ _ h⟩
/-- the first's own result is the whole's -/
theorem qp_out {F : Fm} {Hs H : Hp} {b : Nat} {r : R} {v : V} {fp : List Addr} {Q : VK} {Ep : Nat → XV → Prop} (h : wpB b (.ret r) (F.QP Hs Q) Ep) (I : F.Inv b H) (x : ExtS F.st Hs H) (rs : F.Rs Hs r v H fp) : Q v H := h v H fp I x rs
theorem se_or {e : Expr} {ta tb : SemE} (h : PE X e (tOrT X.K (TEv XR W Γ ta) (TEv XR W Γ tb))) : PE X e (TEv XR W Γ (eOr ta tb)) :=
  PE_imp h fun σ H Q ⟨F, b, e, I, q⟩ => by
    subst e
    unfold eOr at q
    refine te_bind I .refl q fun b1 r1 x H1 f1 q1 I1 e1 rs1 => ?_
    obtain ⟨c, hc, q2⟩ := wpB_ofO q1
    refine ⟨c, truR_ok rs1 hc, ?_⟩
    cases c with
    | true => exact qp_out q2 I1 e1 rs1
    | false => exact te_more I1 e1 q2
theorem se_and {e : Expr} {ta tb : SemE} (h : PE X e (tAndT X.K (TEv XR W Γ ta) (TEv XR W Γ tb))) : PE X e (TEv XR W Γ (eAnd ta tb)) :=
  PE_imp h fun σ H Q ⟨F, b, e, I, q⟩ => by
    subst e
    unfold eAnd at q
    refine te_bind I .refl q fun b1 r1 x H1 f1 q1 I1 e1 rs1 => ?_
    obtain ⟨c, hc, q2⟩ := wpB_ofO q1
    refine ⟨c, truR_ok rs1 hc, ?_⟩
    cases c with
    | false => exact qp_out q2 I1 e1 rs1
    | true => exact te_more I1 e1 q2
theorem se_not {e : Expr} {ta : SemE} (h : PE X e (tNotT X.K (TEv XR W Γ ta))) : PE X e (TEv XR W Γ (eNot ta)) :=
  PE_imp h fun σ H Q ⟨F, b, e, I, q⟩ => by
    subst e
    unfold eNot at q
    refine te_bind I .refl q fun b1 r1 x H1 f1 q1 I1 e1 rs1 => ?_
    obtain ⟨c, hc, q2⟩ := wpB_ofO q1
    exact ⟨c, truR_ok rs1 hc, qp_pure q2 I1 e1 (.bl _)⟩
theorem se_if {e : Expr} {tc : SemT} {ta tb : SemE} (h : PE X e (L2.tIf (TTv XR W Γ tc) (TEv XR W Γ ta) (TEv XR W Γ tb))) : PE X e (TEv XR W Γ (eIf tc ta tb)) :=
  PE_imp h fun σ H Q ⟨F, b, e, I, q⟩ => by
    subst e
    unfold eIf at q
    refine tt_bind I .refl q fun b1 c H1 q1 I1 e1 => ?_
    cases c with
    | true => exact te_more I1 e1 q1
    | false => exact te_more I1 e1 q1
/-! tests -/
theorem tt_more {F : Fm} {b : Nat} {Hb H : Hp} {f : SemT} {Q : Bool → Hp → Prop} (I : F.Inv b H) (x : ExtS F.st Hb H) (h : wpB b (f Γ F.σd) (fun b' c => ∀ H', F.Inv b' H' → ExtS F.st Hb H' → Q c H') (F.EP XR W Hb)) : TTv XR W Γ f F.σ H Q :=
  ⟨F, b, rfl, I, wpB_mono (fun b' r z H' I' e' => z H' I' (x.trans e')) (fun _ _ => F.EP_mono x) _ _ h⟩
/-- by the value's truth -/
theorem st_val {e : Expr} {ta : SemE} (h : PT X e (fun σ H Q => TEv XR W Γ ta σ H fun x H' => ∃ k, TruV X.K x H' k ∧ Q k H')) : PT X e (TTv XR W Γ (tVal ta)) :=
  PT_imp h fun σ H Q ⟨F, b, e, I, q⟩ => by
    subst e
    unfold tVal at q
    refine te_bind I .refl q fun b1 r1 x H1 f1 q1 I1 e1 rs1 => ?_
    have q2 : wpB b1 (ofO (truR r1) >>= fun c => M.ret c) (fun b' c => ∀ H', F.Inv b' H' → ExtS F.st H H' → Q c H') (F.EP XR W H) := by
      cases h2 : truR r1 with
      | none => rw [h2] at q1; exact (show False from q1).elim
      | some c => rw [h2] at q1; exact q1
    obtain ⟨c, hc, q3⟩ := wpB_ofO q2
    exact ⟨c, truR_ok rs1 hc, q3 H1 I1 e1⟩
/-- a comparison, as a test -/
theorem st_cmp {e : Expr} {ta : SemE} (h : PT X e (fun σ H Q => TEv XR W Γ ta σ H fun x H' => ∃ k, x = .bl k ∧ Q k H')) (hb : ∀ Γ σ b Q E, wpB b (ta Γ σ) Q E → wpB b (ta Γ σ) (fun b' r => Q b' r ∧ ∃ c, r.v = .dat (.bool c)) E) : PT X e (TTv XR W Γ (tVal ta)) :=
  PT_imp h fun σ H Q ⟨F, b, e, I, q⟩ => by
    subst e
    unfold tVal at q
    have q' := hb _ _ _ _ _ ((wpB_bind _ _).mp q)
    refine ⟨F, b, rfl, I, wpB_mono (fun b' r z v H' fp I' e' rs => ?_) (fun _ _ z => z) _ _ q'⟩
    obtain ⟨z, c, hc⟩ := z
    unfold truR at z
    rw [hc] at z
    have rv := rs.vr.nil hc
    cases rv
    exact ⟨c, rfl, z H' I' e'⟩
theorem st_not {e : Expr} {ta : SemT} (h : PT X e (L2.tNot (TTv XR W Γ ta))) : PT X e (TTv XR W Γ (DD.tNot ta)) :=
  PT_imp h fun σ H Q ⟨F, b, e, I, q⟩ => by
    subst e
    unfold DD.tNot at q
    exact tt_bind I .refl q fun b1 c H1 q1 I1 e1 => q1 H1 I1 e1
theorem sw_and {e : Expr} {ta tb : SemT} (h : PW X e (L2.tAnd (TTv XR W Γ ta) (TTv XR W Γ tb))) : PW X e (TTv XR W Γ (DD.tAnd ta tb)) :=
  PW_imp h fun σ H Q ⟨F, b, e, I, q⟩ => by
    subst e
    unfold DD.tAnd at q
    refine tt_bind I .refl q fun b1 c H1 q1 I1 e1 => ?_
    cases c with
    | false => exact q1 H1 I1 e1
    | true => exact tt_more I1 e1 q1
theorem sw_or {e : Expr} {ta tb : SemT} (h : PW X e (L2.tOr (TTv XR W Γ ta) (TTv XR W Γ tb))) : PW X e (TTv XR W Γ (DD.tOr ta tb)) :=
  PW_imp h fun σ H Q ⟨F, b, e, I, q⟩ => by
    subst e
    unfold DD.tOr at q
    refine tt_bind I .refl q fun b1 c H1 q1 I1 e1 => ?_
    cases c with
    | true => exact q1 H1 I1 e1
    | false => exact tt_more I1 e1 q1
end
end DD
set_option Elab.async false
set_option linter.all false
set_option maxRecDepth 100000
set_option maxHeartbeats 4000000
/-! DS3: displays, sequences. -/
namespace DD
open PySem PySem.Spec PyProof.Rows L2
section
variable {F : Fm} {Hs H H' : Hp}
theorem RsAll.grow {b b' : Nat} {rs : List R} {vs : List V} {fs : List (List Addr)} (h : RsAll F Hs H rs vs fs) (I : F.Inv b Hs) (s : StOk F.st b' H) (e : ExtS F.st H H') : RsAll F Hs H' rs vs fs := by
  induction h with
  | nil => exact .nil
  | cons r t d ih => exact .cons (r.grow I s e) ih d
theorem RsOk.base {A : Addr → Prop} {H0 : Hp} {st : StT} {σd : SD} {fps : Nat → List Addr} {Hs Hs' : Hp} {r : R} {v : V} {fp : List Addr} (h : RsOk A H0 st σd fps Hs r v H fp) (e : ExtS st Hs' Hs) : RsOk A H0 st σd fps Hs' r v H fp :=
  ⟨h.vr, fun a ha => (h.src a ha).base e, h.fr.1, fun a ha => e.2 a (h.fr.2 a ha)⟩
theorem RsAll.base {Hs' : Hp} {rs : List R} {vs : List V} {fs : List (List Addr)} (h : RsAll F Hs H rs vs fs) (e : ExtS F.st Hs' Hs) : RsAll F Hs' H rs vs fs := by
  induction h with
  | nil => exact .nil
  | cons r t d ih => exact .cons (r.base e) ih d
theorem VR.dom {st : StT} {x : Vl} {v : V} {fp : List Addr} (h : VR st H x v fp) : ∀ a ∈ fp, H a ≠ none := by
  cases x with
  | dat d => exact fun a z => (Rd.dom h a z).1
  | strm => intro a z; rw [h.1] at z; cases z
  | scr => exact h.elim
/-- the cells of fresh results do not stand ahead -/
theorem RsAll.freshAll {rs : List R} {vs : List V} {fs : List (List Addr)} (h : RsAll F Hs H rs vs fs) (a : allF rs = true) : ∀ g ∈ fs, ∀ x ∈ g, Hs x = none := by
  induction h with
  | nil => exact fun g z => nomatch z
  | cons r t d ih =>
    simp only [allF, List.all_cons, Bool.and_eq_true, decide_eq_true_eq] at a
    intro g z x hx
    rcases List.mem_cons.mp z with rfl | z
    · have := r.fr.2
      rw [a.1] at this
      exact this x hx
    · exact ih (by simpa [allF] using a.2) g z x hx
theorem RsAll.disp {rs : List R} {vs : List V} {fs : List (List Addr)} (h : RsAll F Hs H rs vs fs) : ∀ {ds : List PyData}, datas rs = some ds → RdL H ds vs fs.flatten := by
  induction h with
  | nil => intro ds e; cases e; exact .nil
  | cons r t d ih =>
    intro ds e
    rename_i rr v rs vs fp fs
    cases hv : rr.v with
    | dat x =>
      have e' : (datas rs).map (x :: ·) = some ds := by
        have : datas (rr :: rs) = (datas rs).map (x :: ·) := by
          show (match rr.v with
            | .dat d => (datas rs).map (d :: ·)
            | _ => none) = _
          rw [hv]
        rw [← this]; exact e
      obtain ⟨ys, e1, rfl⟩ := Option.map_eq_some_iff.mp e'
      exact .cons (r.vr.nil hv) (ih e1)
    | strm =>
      have : datas (rr :: rs) = none := by
        show (match rr.v with
          | .dat d => (datas rs).map (d :: ·)
          | _ => none) = _
        rw [hv]
      rw [this] at e; cases e
    | scr =>
      have : datas (rr :: rs) = none := by
        show (match rr.v with
          | .dat d => (datas rs).map (d :: ·)
          | _ => none) = _
        rw [hv]
      rw [this] at e; cases e
theorem RsAll.src {rs : List R} {vs : List V} {fs : List (List Addr)} (h : RsAll F Hs H rs vs fs) : ∀ a ∈ fs.flatten, Src F.σd F.fps Hs (tsOf rs) a := by
  induction h with
  | nil => exact fun a z => nomatch z
  | cons r t d ih =>
    intro a z
    rcases List.mem_append.mp z with z | z
    · exact (r.src a z).mono fun i hi => by simp only [tsOf, List.flatMap_cons, List.mem_append]; exact .inl hi
    · exact (ih a z).mono fun i hi => by simp only [tsOf, List.flatMap_cons, List.mem_append] at hi ⊢; exact .inr hi
theorem RsAll.own {b : Nat} {rs : List R} {vs : List V} {fs : List (List Addr)} (h : RsAll F Hs H rs vs fs) (I : F.Inv b Hs) : ∀ a ∈ fs.flatten, Own F.A F.H0 F.st a := fun a z => (h.src a z).own I
theorem RsAll.nodup {rs : List R} {vs : List V} {fs : List (List Addr)} (h : RsAll F Hs H rs vs fs) (a : allF rs = true) : fs.flatten.Nodup := by
  induction h with
  | nil => exact List.nodup_nil
  | cons r t d ih =>
    simp only [allF, List.all_cons, Bool.and_eq_true, decide_eq_true_eq] at a
    rw [List.flatten_cons]
    have n1 := r.fr.1
    rw [a.1] at n1 d
    refine List.nodup_append.mpr ⟨n1, ih (by simpa [allF] using a.2), fun x hx y hy e => ?_⟩
    subst e
    obtain ⟨g, hg, hxg⟩ := List.mem_flatten.mp hy
    exact d x hx g hg hxg
theorem RsAll.dom {rs : List R} {vs : List V} {fs : List (List Addr)} (h : RsAll F Hs H rs vs fs) : ∀ a ∈ fs.flatten, H a ≠ none := by
  induction h with
  | nil => exact fun a z => nomatch z
  | cons r t d ih => exact fun a z => (List.mem_append.mp z).elim (r.vr.dom a) (ih a)
theorem RsAll.len {rs : List R} {vs : List V} {fs : List (List Addr)} (h : RsAll F Hs H rs vs fs) : rs.length = vs.length := by
  induction h with
  | nil => rfl
  | cons r t d ih => simp [ih]
end
section
variable {X : Cx} {XR : XRel} {W : WX} {Γ : FEnv}
theorem sa_nil {es : List Expr} (h : PA X es tNil) : PA X es (TAv XR W Γ aNil) := PA_imp h fun σ H Q ⟨F, b, e, I, q⟩ => q [] H [] I .refl .nil
theorem ta_more {F : Fm} {b : Nat} {Hb H : Hp} {f : SemA} {Q : List V → Hp → Prop} (I : F.Inv b H) (x : ExtS F.st Hb H)
    (h : wpB b (f Γ F.σd) (fun b' rs => ∀ vs H' fs, F.Inv b' H' → ExtS F.st Hb H' → RsAll F H H' rs vs fs → Q vs H') (F.EP XR W Hb)) : TAv XR W Γ f F.σ H Q :=
  ⟨F, b, rfl, I, wpB_mono (fun b' r z vs H' fs I' e' rs => z vs H' fs I' (x.trans e') rs) (fun _ _ => F.EP_mono x) _ _ h⟩
/-- a fresh result lies apart from results that are fresh against the heap where it stands -/
theorem RsOk.apart1 {F : Fm} {b : Nat} {Hs H1 : Hp} {r : R} {v : V} {fp : List Addr} (h : F.Rs Hs r v H1 fp) (I : F.Inv b Hs) {t : List Nat} {a : Addr} (ha : a ∈ exs r.f fp) (s : Src F.σd F.fps H1 t a) : False := by
  rcases s with s | ⟨j, s, e, z, _⟩
  · exact h.vr.dom a (exs_sub ha) s
  · exact I.slotDom e z (h.fr.2 a ha)
theorem RsAll.srcIn {F : Fm} {Hs H : Hp} {rs : List R} {vs : List V} {fs : List (List Addr)} (h : RsAll F Hs H rs vs fs) {g : List Addr} (hg : g ∈ fs) {a : Addr} (ha : a ∈ g) : ∃ t, Src F.σd F.fps Hs t a := ⟨_, h.src a (List.mem_flatten.mpr ⟨g, hg, ha⟩)⟩
theorem sa_cons {es : List Expr} {ta : SemE} {tr : SemA} (h : PA X es (tCons (TEv XR W Γ ta) (TAv XR W Γ tr))) : PA X es (TAv XR W Γ (aCons ta tr)) :=
  PA_imp h fun σ H Q ⟨F, b, e, I, q⟩ => by
    subst e
    unfold aCons at q
    refine te_bind I .refl q fun b1 r1 x H1 f1 q1 I1 e1 rs1 => ?_
    refine ta_bind I1 e1 q1 fun b2 rs vs H2 fs q2 I2 e2 rs2 => ?_
    exact q2 (x :: vs) H2 (f1 :: fs) I2 (e1.trans e2) (.cons (rs1.grow I I1.strm e2) (rs2.base e1) fun a ha g hg hx => let ⟨_, z⟩ := rs2.srcIn hg hx; rs1.apart1 I ha z)
/-- the items of a value, each as a result -/
theorem items_rs {F : Fm} {Hs H : Hp} {t : List Nat} {f : Fr} : ∀ {ds : List PyData} {vs : List V} {fp : List Addr}, RdL H ds vs fp → (∀ a ∈ fp, Src F.σd F.fps Hs t a) →
    (f = .no ∨ (f = .all ∧ fp.Nodup ∧ ∀ a ∈ fp, Hs a = none)) → ∃ fs, fs.flatten = fp ∧ RsAll F Hs H (ds.map fun d => fin d t f) vs fs
  | [], _, _, .nil, _, _ => ⟨[], rfl, .nil⟩
  | d :: ds, _, _, .cons (f := f1) (g := g1) h1 h2, o, hf => by
    have hf2 : f = .no ∨ (f = .all ∧ g1.Nodup ∧ ∀ a ∈ g1, Hs a = none) := by
      rcases hf with h | ⟨h, n, z⟩
      · exact .inl h
      · exact .inr ⟨h, (List.nodup_append.mp n).2.1, fun a ha => z a (List.mem_append_right _ ha)⟩
    obtain ⟨fs, e, k⟩ := items_rs h2 (fun a ha => o a (List.mem_append_right _ ha)) hf2
    refine ⟨f1 :: fs, by rw [List.flatten_cons, e], .cons ?_ k ?_⟩
    · refine RsOk.fin h1 (fun a ha => o a (List.mem_append_left _ ha)) ?_ ?_
      · rcases hf with rfl | ⟨rfl, n, z⟩
        · trivial
        · exact (List.nodup_append.mp n).1
      · rcases hf with rfl | ⟨rfl, n, z⟩
        · exact fun a ha => nomatch ha
        · exact fun a ha => z a (List.mem_append_left _ ha)
    · intro a ha g hg hx
      have ha' := exs_sub ha
      rcases hf with rfl | ⟨rfl, n, z⟩
      · cases hp : pur d with
        | true =>
          rw [Rd.pure h1 hp] at ha'
          cases ha'
        | false =>
          have ha2 : a ∈ exs (fin d t .no).f f1 := ha
          unfold fin at ha2
          rw [hp] at ha2
          cases ha2
      · refine (List.nodup_append.mp n).2.2 a ha' a ?_ rfl
        rw [← e]
        exact List.mem_flatten.mpr ⟨g, hg, hx⟩
theorem RsAll.append {F : Fm} {Hs H : Hp} {rs ss : List R} {vs us : List V} {fs gs : List (List Addr)} (h : RsAll F Hs H rs vs fs) (k : RsAll F Hs H ss us gs) (d : ∀ g ∈ fs, ∀ a ∈ g, Hs a = none → ∀ g' ∈ gs, a ∉ g') : RsAll F Hs H (rs ++ ss) (vs ++ us) (fs ++ gs) := by
  induction h with
  | nil => exact k
  | cons r t dd ih =>
    refine .cons r (ih fun g hg => d g (List.mem_cons_of_mem _ hg)) fun a ha g hg hx => ?_
    rcases List.mem_append.mp hg with hg | hg
    · exact dd a ha g hg hx
    · exact d _ List.mem_cons_self a (exs_sub ha) (r.fr.2 a ha) g hg hx
/-- the items of a list or a tuple that is a result -/
theorem star_items {F : Fm} {Hs H : Hp} {r : R} {v : V} {fp : List Addr} {d : PyData} {ds : List PyData} (h : F.Rs Hs r v H fp) (hd : d = .list ds ∨ d = .tuple ds) (e : r.v = .dat d) :
    ∃ p vs, v = .ref p ∧ (H p = some (.lst vs) ∨ H p = some (.tup vs)) ∧ ∃ fs, RsAll F Hs H (ds.map fun z => fin z r.t (if itP d then .all else .no)) vs fs ∧ ∀ g ∈ fs, ∀ a ∈ g, a ∈ fp := by
  have hv := h.vr.nil e
  have key : ∀ (vs : List V) (g : List Addr), RdL H ds vs g → (∀ a ∈ g, a ∈ fp) → itP d = purL ds → ∃ fs, RsAll F Hs H (ds.map fun z => fin z r.t (if itP d then .all else .no)) vs fs ∧ ∀ g' ∈ fs, ∀ a ∈ g', a ∈ fp := fun vs g hg sub hi => by
    have hf : (if itP d then Fr.all else .no) = .no ∨ ((if itP d then Fr.all else .no) = .all ∧ g.Nodup ∧ ∀ a ∈ g, Hs a = none) := by
      cases hp : itP d with
      | false => exact .inl rfl
      | true =>
        rw [hi] at hp
        have := RdL.pure hg hp
        subst this
        exact .inr ⟨rfl, List.nodup_nil, fun a z => nomatch z⟩
    obtain ⟨fs, e1, k⟩ := items_rs (t := r.t) hg (fun a ha => h.src a (sub a ha)) hf
    exact ⟨fs, k, fun g' hg' a ha => sub a (by rw [← e1]; exact List.mem_flatten.mpr ⟨g', hg', ha⟩)⟩
  rcases hd with rfl | rfl
  · cases hv with
    | lst e1 t =>
      obtain ⟨fs, k, s⟩ := key _ _ t (fun a ha => List.mem_cons_of_mem _ ha) rfl
      exact ⟨_, _, rfl, .inl e1, fs, k, s⟩
  · cases hv with
    | tup e1 t =>
      obtain ⟨fs, k, s⟩ := key _ _ t (fun a ha => ha) rfl
      exact ⟨_, _, rfl, .inr e1, fs, k, s⟩
theorem sa_star {es : List Expr} {ta : SemE} {tr : SemA} (h : PA X es (StX.tStar X.K (TEv XR W Γ ta) (TAv XR W Γ tr))) : PA X es (TAv XR W Γ (aStar ta tr)) :=
  PA_imp h fun σ H Q ⟨F, b, e, I, q⟩ => by
    subst e
    unfold aStar at q
    refine te_bind I .refl q fun b1 r1 x H1 f1 q1 I1 e1 rs1 => ?_
    have go : ∀ (d : PyData) (ds : List PyData), (d = .list ds ∨ d = .tuple ds) → r1.v = .dat d → wpB b1 (tr Γ F.σd >>= fun xs => M.ret (starR r1 d ds ++ xs)) (fun b' rs => ∀ vs H' fs, F.Inv b' H' → ExtS F.st H H' → RsAll F H H' rs vs fs → Q vs H') (F.EP XR W H) →
        ∃ p xs, x = V.ref p ∧ (SqT X.K H1 p xs ∨ SqL X.K H1 p xs) ∧ TAv XR W Γ tr F.σ H1 fun ys H2 => Q (xs ++ ys) H2 := fun d ds hd e q1 => by
      obtain ⟨p, vs, rfl, hp, fs, k, sub⟩ := star_items rs1 hd e
      refine ⟨p, vs, rfl, hp.elim (fun z => .inr (SqL.of z)) (fun z => .inl (SqT.of z)), ?_⟩
      refine ta_bind I1 e1 q1 fun b2 rs us H2 gs q2 I2 e2 rs2 => ?_
      refine q2 (vs ++ us) H2 (fs ++ gs) I2 (e1.trans e2) ((k.grow I I1.strm e2).append (rs2.base e1) fun g hg a ha hn g' hg' hx => ?_)
      obtain ⟨_, z⟩ := rs2.srcIn hg' hx
      rcases z with z | ⟨j, s, e, y, _⟩
      · exact rs1.vr.dom a (sub g hg a ha) z
      · exact I.slotDom e y hn
    cases hv : r1.v with
    | dat d =>
      cases d with
      | list ds => exact go _ ds (.inl rfl) hv (by rw [hv] at q1; exact q1)
      | tuple ds => exact go _ ds (.inr rfl) hv (by rw [hv] at q1; exact q1)
      | _ => rw [hv] at q1; exact (show False from q1).elim
    | strm => rw [hv] at q1; exact (show False from q1).elim
    | scr => rw [hv] at q1; exact (show False from q1).elim
/-- the flags of a new cell over results -/
theorem wpB_disp {b : Nat} {rs : List R} {k : List PyData → M R} {Q : Nat → R → Prop} {E : Nat → XV → Prop} (h : wpB b (match datas rs with
    | some ds => if ds.length ≤ 16777216 then k ds else .fail
    | none => .fail) Q E) : ∃ ds, datas rs = some ds ∧ ds.length ≤ 16777216 ∧ wpB b (k ds) Q E := by
  cases e : datas rs with
  | none => rw [e] at h; exact h.elim
  | some ds =>
    rw [e] at h
    by_cases hl : ds.length ≤ 16777216
    · exact ⟨ds, rfl, hl, by simpa [if_pos hl] using h⟩
    · simp only [if_neg hl] at h
      exact h.elim
theorem se_tup {e : Expr} {ta : SemA} (h : PE X e (L2.tTup (TAv XR W Γ ta))) : PE X e (TEv XR W Γ (eTup ta)) :=
  PE_imp h fun σ H Q ⟨F, b, e, I, q⟩ => by
    subst e
    unfold eTup at q
    refine ta_bind I .refl q fun b1 rs vs H1 fs q1 I1 e1 rs1 => ?_
    obtain ⟨ds, hd, hl, q2⟩ := wpB_disp q1
    have rd := rs1.disp hd
    refine ⟨by rw [← rd.length, sizeLine_eq]; exact hl, fun p hp => ?_⟩
    have x1 : ExtS F.st H1 (upd H1 p (.tup vs)) := .new hp
    have I2 : F.Inv b1 (upd H1 p (.tup vs)) := I1.new hp
    refine q2 (.ref p) _ fs.flatten I2 (e1.trans x1) (RsOk.fin (.tup upd_same (rd.ext I1.strm (fun a z => (rs1.own I a z).2) x1)) rs1.src ?_ ?_)
    · cases ha : allF rs with
      | true => exact rs1.nodup ha
      | false => trivial
    · cases ha : allF rs with
      | true =>
        intro a z
        obtain ⟨g, hg, hx⟩ := List.mem_flatten.mp z
        exact rs1.freshAll ha g hg a hx
      | false => exact fun a z => nomatch z
/-- a new list of read items -/
theorem new_list {F : Fm} {Hs H : Hp} {b b' : Nat} {ds : List PyData} {vs : List V} {fp : List Addr} {t : List Nat} {f : Fr} {p : Addr} (I : F.Inv b Hs) (I1 : F.Inv b' H) (e : ExtS F.st Hs H) (rd : RdL H ds vs fp) (src : ∀ a ∈ fp, Src F.σd F.fps Hs t a)
    (hp : H p = none) (hf : f = .top ∨ (f = .all ∧ fp.Nodup ∧ ∀ a ∈ fp, Hs a = none)) :
    F.Rs Hs (fin (.list ds) t f) (.ref p) (upd H p (.lst vs)) (p :: fp) := by
  have x1 : ExtS F.st H (upd H p (.lst vs)) := .new hp
  have np : p ∉ fp := fun z => (RdL.dom rd p z).1 hp
  refine RsOk.fin (.lst upd_same (rd.ext I1.strm (fun a z => ((src a z).own I).2) x1)) (fun a z => ?_) ?_ ?_
  · rcases List.mem_cons.mp z with rfl | z
    · exact .inl (e.2 _ hp)
    · exact src a z
  · rcases hf with rfl | ⟨rfl, n, _⟩
    · exact ⟨p, fp, rfl, np⟩
    · exact List.nodup_cons.mpr ⟨np, n⟩
  · rcases hf with rfl | ⟨rfl, n, z⟩
    · intro a ha
      rw [show exs Fr.top (p :: fp) = [p] from rfl, List.mem_singleton] at ha
      subst ha
      exact e.2 a hp
    · intro a ha
      rcases List.mem_cons.mp ha with rfl | ha
      · exact e.2 a hp
      · exact z a ha
theorem se_lst {e : Expr} {ta : SemA} (h : PE X e (L2.tLst (TAv XR W Γ ta))) : PE X e (TEv XR W Γ (eLst ta)) :=
  PE_imp h fun σ H Q ⟨F, b, e, I, q⟩ => by
    subst e
    unfold eLst at q
    refine ta_bind I .refl q fun b1 rs vs H1 fs q1 I1 e1 rs1 => ?_
    obtain ⟨ds, hd, hl, q2⟩ := wpB_disp q1
    have rd := rs1.disp hd
    refine ⟨by rw [← rd.length, sizeLine_eq]; exact hl, fun p hp => ?_⟩
    refine q2 (.ref p) _ (p :: fs.flatten) (I1.new hp) (e1.trans (.new hp)) (new_list I I1 e1 rd rs1.src hp ?_)
    unfold dispF
    cases ha : allF rs with
    | true =>
      refine .inr ⟨rfl, rs1.nodup ha, fun a z => ?_⟩
      obtain ⟨g, hg, hx⟩ := List.mem_flatten.mp z
      exact rs1.freshAll ha g hg a hx
    | false => exact .inl rfl
end
end DD
set_option Elab.async false
set_option linter.all false
set_option maxRecDepth 100000
set_option maxHeartbeats 4000000
/-! DS4: sequences joined, read, cut. -/
namespace DD
open PySem PySem.Spec PyProof.Rows L2
section
variable {X : Cx} {XR : XRel} {W : WX} {Γ : FEnv}
theorem se_bin {r : R2} {K : R → R → M R} {e : Expr} {ta tb : SemE} (h : PE X e (tOp r (TEv XR W Γ ta) (TEv XR W Γ tb)))
    (k : ∀ (F : Fm) (b0 b : Nat) (Hs H : Hp) (x y : R) (u v : V) (f g : List Addr) (Q : VK) (E : Nat → XV → Prop), F.Inv b0 Hs → F.Inv b H → ExtS F.st Hs H → F.Rs Hs x u H f → F.Rs Hs y v H g →
      (y.f = .all → ∀ a ∈ f, a ∉ g) → wpB b (K x y) (F.QP Hs Q) E → r u v H Q) : PE X e (TEv XR W Γ (eBin K ta tb)) :=
  PE_imp h fun σ H Q ⟨F, b, e, I, q⟩ => by
    subst e
    unfold eBin at q
    refine te_bind I .refl q fun b1 r1 x H1 f1 q1 I1 e1 rs1 => ?_
    refine te_bind I1 e1 q1 fun b2 r2 y H2 f2 q2 I2 e2 rs2 => ?_
    refine k F b b2 H H2 r1 r2 x y f1 f2 Q _ I I2 (e1.trans e2) (rs1.grow I I1.strm e2) (rs2.base e1) (fun hy a ha hx => ?_) q2
    have z := rs2.fr.2
    rw [hy] at z
    exact rs1.vr.dom a ha (z a hx)
theorem se_mon {r : V → Hp → VK → Prop} {K : R → M R} {e : Expr} {ta : SemE} (h : PE X e (tUn r (TEv XR W Γ ta)))
    (k : ∀ (F : Fm) (b0 b : Nat) (Hs H : Hp) (x : R) (u : V) (f : List Addr) (Q : VK) (E : Nat → XV → Prop), F.Inv b0 Hs → F.Inv b H → ExtS F.st Hs H → F.Rs Hs x u H f → wpB b (K x) (F.QP Hs Q) E → r u H Q) : PE X e (TEv XR W Γ (eMon K ta)) :=
  PE_imp h fun σ H Q ⟨F, b, e, I, q⟩ => by
    subst e
    unfold eMon at q
    refine te_bind I .refl q fun b1 r1 x H1 f1 q1 I1 e1 rs1 => ?_
    exact k F b b1 H H1 r1 x f1 Q _ I I1 e1 rs1 q1
/-- a + b -/
def rAdd (K : PySem.W.Frag) : R2 := fun x y H Q => (rI0 (fun i j => .int (i + j)) x y H Q ∨ (∃ i j, x = .str i ∧ y = .str j ∧ i.length + j.length ≤ sizeLine ∧ Q (.str (i ++ j)) H)) ∨ (rCat x y H Q ∨ rCatA K x y H Q)
theorem op_addAny : OpR X (binaryOp .Add) (rAdd X.K) := OpR.or (OpR.or op_add op_add_str) (OpR.or op_cat op_catA)
theorem plainL_pur {ds : List PyData} : itP (.list ds) = purL ds := rfl
theorem purL_app : ∀ {xs ys : List PyData}, purL (xs ++ ys) = (purL xs && purL ys)
  | [], _ => rfl
  | x :: xs, ys => by
    show (pur x && purL (xs ++ ys)) = ((pur x && purL xs) && purL ys)
    rw [purL_app, Bool.and_assoc]
theorem k_add (F : Fm) (b0 b : Nat) (Hs H : Hp) (x y : R) (u v : V) (f g : List Addr) (Q : VK) (E : Nat → XV → Prop) (I0 : F.Inv b0 Hs) (I : F.Inv b H) (e : ExtS F.st Hs H) (hx : F.Rs Hs x u H f) (hy : F.Rs Hs y v H g)
    (dj : y.f = .all → ∀ a ∈ f, a ∉ g) (q : wpB b (addK x y) (F.QP Hs Q) E) : rAdd X.K u v H Q := by
  unfold addK at q
  split at q
  · rename_i i j h1 h2
    exact .inl (.inl ⟨i, j, (hx.vr.nil h1).int_inv, (hy.vr.nil h2).int_inv, qp_pure q I e (.int _)⟩)
  · rename_i i j h1 h2
    split at q
    · rename_i hl
      have z1 := hx.vr.nil h1
      have z2 := hy.vr.nil h2
      cases z1
      cases z2
      exact .inl (.inr ⟨i, j, rfl, rfl, by rw [sizeLine_eq]; exact hl, qp_pure q I e (.str _)⟩)
    · exact q.elim
  · rename_i xs ys h1 h2
    split at q
    · rename_i hl
      have z1 := hx.vr.nil h1
      have z2 := hy.vr.nil h2
      cases z1 with
      | lst e1 t1 =>
        cases z2 with
        | lst e2 t2 =>
          rename_i a1 vs1 fp1 a2 vs2 fp2
          refine .inr (.inl ⟨_, _, _, _, rfl, rfl, e1, e2, ?_, fun p hp => ?_⟩)
          · rw [← t1.length, ← t2.length, sizeLine_eq]; exact hl
          · have rd := t1.append t2
            have srcA : ∀ a ∈ fp1 ++ fp2, Src F.σd F.fps Hs (x.t ++ y.t) a := fun a z => (List.mem_append.mp z).elim (fun z => (hx.src a (List.mem_cons_of_mem _ z)).mono fun _ => List.mem_append_left _) (fun z => (hy.src a (List.mem_cons_of_mem _ z)).mono fun _ => List.mem_append_right _)
            refine q (.ref p) _ (p :: (fp1 ++ fp2)) (I.new hp) (e.trans (.new hp)) (new_list I0 I e rd srcA hp ?_)
            unfold both
            split
            · rename_i hp
              have := RdL.pure rd (by rw [← hp]; rfl)
              rw [this]
              exact .inr ⟨rfl, List.nodup_nil, fun a z => nomatch z⟩
            · split
              · rename_i hb
                have n1 := hx.fr
                have n2 := hy.fr
                rw [hb.1] at n1
                rw [hb.2] at n2
                refine .inr ⟨rfl, List.nodup_append.mpr ⟨(List.nodup_cons.mp n1.1).2, (List.nodup_cons.mp n2.1).2, fun a ha c hc z => ?_⟩, fun a z => ?_⟩
                · subst z
                  exact dj hb.2 a (List.mem_cons_of_mem _ ha) (List.mem_cons_of_mem _ hc)
                · exact (List.mem_append.mp z).elim (fun z => n1.2 a (List.mem_cons_of_mem _ z)) (fun z => n2.2 a (List.mem_cons_of_mem _ z))
              · exact .inl rfl
    · exact q.elim
  · rename_i xs ys h1 h2
    split at q
    · rename_i hl
      have z1 := hx.vr.nil h1
      have z2 := hy.vr.nil h2
      cases z1 with
      | tup e1 t1 =>
        cases z2 with
        | tup e2 t2 =>
          rename_i a1 vs1 a2 vs2
          have rd := t1.append t2
          have srcA : ∀ a ∈ f ++ g, Src F.σd F.fps Hs (x.t ++ y.t) a := fun a z => (List.mem_append.mp z).elim (fun z => (hx.src a z).mono fun _ => List.mem_append_left _) (fun z => (hy.src a z).mono fun _ => List.mem_append_right _)
          have fr : FrOk (bothT x y) (f ++ g) ∧ ∀ a ∈ exs (bothT x y) (f ++ g), Hs a = none := by
            unfold bothT
            split
            · rename_i hb
              have n1 := hx.fr
              have n2 := hy.fr
              rw [hb.1] at n1
              rw [hb.2] at n2
              refine ⟨List.nodup_append.mpr ⟨n1.1, n2.1, fun a ha c hc z => ?_⟩, fun a z => ?_⟩
              · subst z
                exact dj hb.2 a ha hc
              · exact (List.mem_append.mp z).elim (n1.2 a) (n2.2 a)
            · exact ⟨trivial, fun a z => nomatch z⟩
          refine .inr (.inr ⟨_, _, _, _, rfl, rfl, SqT.of e1, SqT.of e2, ?_, fun hn => ?_, fun hn hm => ?_, fun hn hm p hp => ?_⟩)
          · rw [← t1.length, ← t2.length, sizeLine_eq]; exact hl
          · subst hn
            cases t1
            exact q (.ref a2) H _ I e (RsOk.fin (.tup e2 t2) srcA fr.1 fr.2)
          · subst hm
            cases t2
            exact q (.ref a1) H _ I e (RsOk.fin (.tup e1 (by simpa using rd)) srcA fr.1 fr.2)
          · have x1 : ExtS F.st H (upd H p (.tup (vs1 ++ vs2))) := .new hp
            exact q (.ref p) _ _ (I.new hp) (e.trans x1) (RsOk.fin (.tup upd_same (rd.ext I.strm (fun a z => ((srcA a z).own I0).2) x1)) srcA fr.1 fr.2)
    · exact q.elim
  · exact q.elim
theorem se_add {e : Expr} {ta tb : SemE} (h : PE X e (tOp (rAdd X.K) (TEv XR W Γ ta) (TEv XR W Γ tb))) : PE X e (TEv XR W Γ (eAdd ta tb)) := se_bin h k_add
end
end DD
set_option Elab.async false
set_option linter.all false
set_option maxRecDepth 100000
set_option maxHeartbeats 4000000
/-! DS5: products, places, parts, what len, list, tuple and the like make. -/
namespace DD
open PySem PySem.Spec PyProof.Rows L2
section
variable {X : Cx} {XR : XRel} {W : WX} {Γ : FEnv}
theorem RdL.rep {H : Hp} {ds : List PyData} {vs : List V} {fp : List Addr} (h : RdL H ds vs fp) : ∀ n, RdL H (List.replicate n ds).flatten (List.replicate n vs).flatten (List.replicate n fp).flatten
  | 0 => .nil
  | n + 1 => by
    simp only [List.replicate_succ, List.flatten_cons]
    exact h.append (RdL.rep h n)
theorem mem_rep {fp : List Addr} : ∀ {n : Nat} {a : Addr}, a ∈ (List.replicate n fp).flatten → a ∈ fp
  | 0, a, h => nomatch h
  | n + 1, a, h => by
    simp only [List.replicate_succ, List.flatten_cons, List.mem_append] at h
    exact h.elim id mem_rep
theorem small64_inv {i j : Int} (h : (small64 i || small64 j) = true) : CMul i j := by
  simp only [small64, Bool.or_eq_true, Bool.and_eq_true, decide_eq_true_eq] at h
  exact h
def rMulA : R2 := fun x y H Q => rI CMul (fun i j => .int (i * j)) x y H Q ∨ rRep x y H Q
theorem op_mulAny : OpR X (binaryOp .Mult) rMulA := OpR.or op_mul op_rep
theorem k_mul (F : Fm) (b0 b : Nat) (Hs H : Hp) (x y : R) (u v : V) (f g : List Addr) (Q : VK) (E : Nat → XV → Prop) (I0 : F.Inv b0 Hs) (I : F.Inv b H) (e : ExtS F.st Hs H) (hx : F.Rs Hs x u H f) (hy : F.Rs Hs y v H g)
    (dj : y.f = .all → ∀ a ∈ f, a ∉ g) (q : wpB b (mulK x y) (F.QP Hs Q) E) : rMulA u v H Q := by
  unfold mulK at q
  split at q
  · rename_i i j h1 h2
    split at q
    · rename_i hs
      exact .inl ⟨i, j, (hx.vr.nil h1).int_inv, (hy.vr.nil h2).int_inv, small64_inv hs, qp_pure q I e (.int _)⟩
    · exact q.elim
  · rename_i xs k h1 h2
    split at q
    · rename_i hl
      have z1 := hx.vr.nil h1
      have z2 := hy.vr.nil h2
      cases z1 with
      | lst e1 t1 =>
        cases z2
        rename_i a1 vs1 fp1
        refine .inr ⟨_, _, _, rfl, rfl, e1, hl.1, hl.2.1, ?_, fun p hp => ?_⟩
        · rw [← t1.length, sizeLine_eq]; exact hl.2.2
        · have rd := t1.rep k.toNat
          refine q (.ref p) _ (p :: (List.replicate k.toNat fp1).flatten) (I.new hp) (e.trans (.new hp)) (new_list I0 I e rd (fun a z => hx.src a (List.mem_cons_of_mem _ (mem_rep z))) hp ?_)
          split
          · rename_i hp
            have := RdL.pure t1 (by rw [← hp]; rfl)
            subst this
            have z : (List.replicate k.toNat ([] : List Addr)).flatten = [] := by simp
            rw [z]
            exact .inr ⟨rfl, List.nodup_nil, fun a z => nomatch z⟩
          · exact .inl rfl
    · exact q.elim
  · exact q.elim
theorem se_mul {e : Expr} {ta tb : SemE} (h : PE X e (tOp rMulA (TEv XR W Γ ta) (TEv XR W Γ tb))) : PE X e (TEv XR W Γ (eMul ta tb)) := se_bin h k_mul
/-! ### places -/
/-- d[k] at a subscript -/
def rIxD : R2 := fun x y H Q => ∃ a v, x = .ref a ∧ DGet H a y (some v) ∧ Q v H
theorem ix_dict (hu : X.A.units + 1 < cLine) : IxR X rIxD := by
  intro value slice pins s σ H x y v u Q I rx ry h hs
  obtain ⟨a, z, rfl, g, q⟩ := h
  obtain rfl : v = Value.ref a := rx
  exact tail_any (dict_typeIs I g) PySem.F.slot_dict_getitem.lookup (d_getItem hu I g ry fun w' s3 I3 rw' => ⟨z, H, I3, rw', q⟩) hs
def rIxA (K : PySem.W.Frag) : R2 := fun x y H Q => (rIxL K x y H Q ∨ rIxT K x y H Q) ∨ rIxD x y H Q
theorem ix_any (hu : X.A.units + 1 < cLine) : IxR X (rIxA X.K) := (ix_list.or ix_tup).or (ix_dict hu)
theorem ixD_eq (n : Nat) (i : Int) : ixD n i = ixN n i := rfl
theorem atD_inv {H : Hp} {xs : List PyData} {vs : List V} {fp : List Addr} {i : Int} {d : PyData} (h : RdL H xs vs fp) (e : atD xs i = some d) : ∃ v f l r, atI vs i = some v ∧ Rd H d v f ∧ fp = l ++ (f ++ r) := by
  unfold atD at e
  obtain ⟨j, e1, e2⟩ := Option.bind_eq_some_iff.mp e
  obtain ⟨v, f, l, r, e3, e4, e5⟩ := h.get e2
  refine ⟨v, f, l, r, ?_, e4, e5⟩
  unfold atI
  rw [← h.length, ← ixD_eq, e1]
  exact e3
/-- a part of a result -/
theorem part_rs {F : Fm} {Hs H : Hp} {x : R} {u v : V} {f g : List Addr} {d : PyData} (hx : F.Rs Hs x u H f) (hd : Rd H d v g) (sub : ∀ a ∈ g, a ∈ f) (nd : f.Nodup → g.Nodup) : F.Rs Hs (part x d) v H g := by
  unfold part
  refine RsOk.fin hd (fun a z => hx.src a (sub a z)) ?_ ?_
  · cases hf : x.f with
    | all =>
      have z := hx.fr.1
      rw [hf] at z
      exact nd z
    | no => trivial
    | top => trivial
  · cases hf : x.f with
    | all =>
      have z := hx.fr.2
      rw [hf] at z
      exact fun a ha => z a (sub a ha)
    | no => exact fun a z => nomatch z
    | top => exact fun a z => nomatch z
theorem nodup_mid {l f r : List Addr} (h : (l ++ (f ++ r)).Nodup) : f.Nodup := (List.nodup_append.mp (List.nodup_append.mp h).2.1).1
theorem sub_mid {l f r : List Addr} : ∀ a ∈ f, a ∈ l ++ (f ++ r) := fun a h => List.mem_append_right _ (List.mem_append_left _ h)
theorem partO_inv {b : Nat} {x : R} {o : Option PyData} {Q : Nat → R → Prop} {E : Nat → XV → Prop} (h : wpB b (partO x o) Q E) : ∃ d, o = some d ∧ Q b (part x d) := by
  cases o with
  | none => exact (show False from h).elim
  | some d => exact ⟨d, rfl, h⟩
/-- the keys of dicts -/
theorem key_of {H : Hp} {k : PyData} {y : V} {g : List Addr} (h : Rd H k y g) (hk : isKey k = true) : ∃ k' : Key, k = keyD k' ∧ y = kV k' := by
  cases h with
  | int i => exact ⟨.inl i, rfl, rfl⟩
  | str x => exact ⟨.inr x, rfl, rfl⟩
  | _ => cases hk
theorem keys_of {H : Hp} : ∀ {ks : List PyData} {ys : List V} {g : List Addr}, RdL H ks ys g → ks.all isKey = true → ∃ ks' : List Key, ks = ks'.map keyD ∧ ys = ks'.map kV
  | [], _, _, .nil, _ => ⟨[], rfl, rfl⟩
  | k :: ks, _, _, .cons h t, i => by
    rw [List.all_cons, Bool.and_eq_true] at i
    obtain ⟨k', e1, e2⟩ := key_of h i.1
    obtain ⟨r, e3, e4⟩ := keys_of t i.2
    exact ⟨k' :: r, by rw [e1, e3]; rfl, by rw [e2, e4]; rfl⟩
theorem keyD_eqv : ∀ a b : Key, PyData.eqv (keyD a) (keyD b) = decide (a = b)
  | .inl i, .inl j => by
    show (i == j) = _
    by_cases e : i = j
    · subst e; simp
    · rw [beq_eq_false_iff_ne.mpr e, decide_eq_false (fun q => e (Sum.inl.inj q))]
  | .inr x, .inr y => by
    show (x == y) = _
    by_cases e : x = y
    · subst e; simp
    · rw [beq_eq_false_iff_ne.mpr e, decide_eq_false (fun q => e (Sum.inr.inj q))]
  | .inl i, .inr y => by
    rw [decide_eq_false (fun q => nomatch q)]; rfl
  | .inr x, .inl j => by
    rw [decide_eq_false (fun q => nomatch q)]; rfl
theorem keysD_eqv : ∀ a b : List Key, PyData.eqvAll (a.map keyD) (b.map keyD) = decide (a = b)
  | [], [] => rfl
  | [], _ :: _ => rfl
  | _ :: _, [] => rfl
  | x :: xs, y :: ys => by
    show (PyData.eqv (keyD x) (keyD y) && PyData.eqvAll (xs.map keyD) (ys.map keyD)) = _
    rw [keyD_eqv, keysD_eqv]
    by_cases e : x = y
    · subst e
      by_cases e2 : xs = ys
      · subst e2; simp
      · simp [e2]
    · simp [e]
/-- looking up: by the plain keys, by the heap's -/
theorem dGet_inv {κ : Type} [DecidableEq κ] {kd : κ → PyData} (heq : ∀ a b, PyData.eqv (kd a) (kd b) = decide (a = b)) {H : Hp} {k : κ} {d : PyData} : ∀ {kvs : List (PyData × PyData)} {ks : List (κ × V)} {fp : List Addr},
    kvs.map (·.1) = ks.map (fun p => kd p.1) → RdL H (kvs.map (·.2)) (ks.map (·.2)) fp → dGet kvs (kd k) = some d → ∃ v f l r, valV ks k = some v ∧ Rd H d v f ∧ fp = l ++ (f ++ r)
  | [], [], _, _, _, e => nomatch e
  | [], _ :: _, _, e1, _, _ => nomatch e1
  | _ :: _, [], _, e1, _, _ => nomatch e1
  | (a, w) :: kvs, (c, u) :: ks, _, e1, .cons (f := f) (g := g) h t, e => by
    simp only [List.map_cons, List.cons.injEq] at e1
    have e' : (if PyData.eqv a (kd k) then some w else dGet kvs (kd k)) = some d := e
    rw [e1.1, heq] at e'
    by_cases hc : c = k
    · subst hc
      rw [decide_eq_true rfl, if_pos rfl] at e'
      cases e'
      exact ⟨u, f, [], g, valV_pos rfl, h, rfl⟩
    · rw [decide_eq_false hc, if_neg (by simp)] at e'
      obtain ⟨v, f', l, r, e2, e3, e4⟩ := dGet_inv heq e1.2 t e'
      exact ⟨v, f', f ++ l, r, by rw [valV_neg hc]; exact e2, e3, by rw [e4]; simp⟩
theorem k_ix (F : Fm) (b0 b : Nat) (Hs H : Hp) (x y : R) (u v : V) (f g : List Addr) (Q : VK) (E : Nat → XV → Prop) (I0 : F.Inv b0 Hs) (I : F.Inv b H) (e : ExtS F.st Hs H) (hx : F.Rs Hs x u H f) (hy : F.Rs Hs y v H g)
    (dj : y.f = .all → ∀ a ∈ f, a ∉ g) (q : wpB b (ixK x y) (F.QP Hs Q) E) : rIxA X.K u v H Q := by
  unfold ixK at q
  split at q
  · rename_i xs i h1 h2
    obtain ⟨d, hd, q⟩ := partO_inv q
    have z1 := hx.vr.nil h1
    have z2 := hy.vr.nil h2
    cases z2
    cases z1 with
    | lst e1 t1 =>
      obtain ⟨w, f', l, r, a1, a2, rfl⟩ := atD_inv t1 hd
      exact .inl (.inl ⟨_, _, _, _, rfl, rfl, SqL.of e1, a1, q w H f' I e (part_rs hx a2 (fun a z => List.mem_cons_of_mem _ (sub_mid a z)) fun n => nodup_mid (List.nodup_cons.mp n).2)⟩)
  · rename_i xs i h1 h2
    obtain ⟨d, hd, q⟩ := partO_inv q
    have z1 := hx.vr.nil h1
    have z2 := hy.vr.nil h2
    cases z2
    cases z1 with
    | tup e1 t1 =>
      obtain ⟨w, f', l, r, a1, a2, rfl⟩ := atD_inv t1 hd
      exact .inl (.inr ⟨_, _, _, _, rfl, rfl, SqT.of e1, a1, q w H f' I e (part_rs hx a2 sub_mid nodup_mid)⟩)
  · rename_i kvs k h1 h2
    split at q
    · rename_i hk
      obtain ⟨d, hd, q'⟩ := partO_inv q
      clear q
      have z1 := hx.vr.nil h1
      have z2 := hy.vr.nil h2
      cases z1 with
      | dK e1 m1 t1 =>
        rename_i a ks fp
        by_cases hk1 : isKey k = true
        · obtain ⟨k', rfl, rfl⟩ := key_of z2 hk1
          obtain ⟨w, f', l, r, a1, a2, rfl⟩ := dGet_inv keyD_eqv m1 t1 hd
          exact .inr ⟨_, w, rfl, by rw [← a1]; exact DGet.k e1, q' w H f' I e (part_rs hx a2 (fun a z => List.mem_cons_of_mem _ (sub_mid a z)) fun n => nodup_mid (List.nodup_cons.mp n).2)⟩
        · -- a tuple is no key here
          exfalso
          have hk2 : isKeyT k = true := by simpa [hk1] using hk
          have none : ∀ (kvs : List (PyData × PyData)) (ks : List (Key × V)), kvs.map (·.1) = ks.map (fun p => keyD p.1) → dGet kvs k = Option.none := by
            intro kvs
            induction kvs with
            | nil => intros; rfl
            | cons p r ih =>
              intro ks m
              cases ks with
              | nil => cases m
              | cons c ks =>
                simp only [List.map_cons, List.cons.injEq] at m
                show (if PyData.eqv p.1 k then some p.2 else dGet r k) = Option.none
                rw [m.1, ih ks m.2]
                cases k with
                | tuple xs =>
                  cases hc : c.1 <;> simp [keyD, PyData.eqv]
                | _ => cases hk2
          rw [none _ _ m1] at hd
          cases hd
      | dT _ e1 m1 t1 =>
        rename_i a ks fp
        by_cases hk2 : isKeyT k = true
        · cases k with
          | tuple xs =>
            cases z2 with
            | tup e2 t2 =>
              obtain ⟨k', rfl, rfl⟩ := keys_of t2 hk2
              obtain ⟨w, f', l, r, a1, a2, rfl⟩ := dGet_inv (kd := fun k => .tuple (k.map keyD)) (fun a b => by simp only [PyData.eqv]; exact keysD_eqv a b) m1 t1 hd
              exact .inr ⟨_, w, rfl, by rw [← a1]; exact DGet.t e1 e2, q' w H f' I e (part_rs hx a2 (fun a z => List.mem_cons_of_mem _ (sub_mid a z)) fun n => nodup_mid (List.nodup_cons.mp n).2)⟩
          | _ => cases hk2
        · exfalso
          have hk1 : isKey k = true := by simpa [hk2] using hk
          have none : ∀ (kvs : List (PyData × PyData)) (ks : List (List Key × V)), kvs.map (·.1) = ks.map (fun p => PyData.tuple (p.1.map keyD)) → dGet kvs k = Option.none := by
            intro kvs
            induction kvs with
            | nil => intros; rfl
            | cons p r ih =>
              intro ks m
              cases ks with
              | nil => cases m
              | cons c ks =>
                simp only [List.map_cons, List.cons.injEq] at m
                show (if PyData.eqv p.1 k then some p.2 else dGet r k) = Option.none
                rw [m.1, ih ks m.2]
                cases k with
                | int i => simp [PyData.eqv]
                | str i => simp [PyData.eqv]
                | _ => cases hk1
          rw [none _ _ m1] at hd
          cases hd
    · exact q.elim
  · exact q.elim
theorem se_ix {e : Expr} {ta tb : SemE} (h : PE X e (tOp (rIxA X.K) (TEv XR W Γ ta) (TEv XR W Γ tb))) : PE X e (TEv XR W Γ (eIx ta tb)) := se_bin h k_ix
end
end DD
set_option Elab.async false
set_option linter.all false
set_option maxRecDepth 100000
set_option maxHeartbeats 4000000
/-! DS6: parts, built-ins. -/
namespace DD
open PySem PySem.Spec PyProof.Rows L2
def TOv (XR : XRel) (W : WX) (Γ : FEnv) (f : SemO) : L2.TO := fun σ H Q => ∃ (F : Fm) (b : Nat), F.σ = σ ∧ F.Inv b H ∧ wpB b (f Γ F.σd) (fun b' c => ∀ H', F.Inv b' H' → ExtS F.st H H' → Q c H') (F.EP XR W H)
section
variable {X : Cx} {XR : XRel} {W : WX} {Γ : FEnv}
theorem to_bind {α : Type} {F : Fm} {b : Nat} {Hb H : Hp} {f : SemO} {k : Option Int → M α} {Qp : Nat → α → Prop} {Q : Option Int → Hp → Prop} (I : F.Inv b H) (x : ExtS F.st Hb H) (h : wpB b (f Γ F.σd >>= k) Qp (F.EP XR W Hb))
    (q : ∀ b' c H', wpB b' (k c) Qp (F.EP XR W Hb) → F.Inv b' H' → ExtS F.st H H' → Q c H') : TOv XR W Γ f F.σ H Q :=
  ⟨F, b, rfl, I, wpB_mono (fun b' c z H' I' e' => q b' c H' z I' e') (fun _ _ => F.EP_mono x) _ _ ((wpB_bind _ _).mp h)⟩
theorem PO_imp {e : Option Expr} {t t' : L2.TO} (h : PO X e t) (k : ∀ σ H Q, t' σ H Q → t σ H Q) : PO X e t' := ⟨fun pins s σ H Q I q => h.run pins s σ H Q I (k σ H Q q)⟩
theorem so_none {e : Option Expr} (h : PO X e tNoPart) : PO X e (TOv XR W Γ oNone) := PO_imp h fun σ H Q ⟨F, b, e, I, q⟩ => q H I .refl
theorem so_some {e : Option Expr} {ta : SemE} (h : PO X e (tPart (TEv XR W Γ ta))) : PO X e (TOv XR W Γ (oSome ta)) := PO_imp h fun σ H Q ⟨F, b, e, I, q⟩ => by
  subst e
  unfold oSome at q
  refine te_bind I .refl q fun b1 r1 x H1 f1 q1 I1 e1 rs1 => ?_
  cases hv : r1.v with
  | dat d =>
    rw [hv] at q1
    cases d with
    | int i => exact ⟨i, (rs1.vr.nil hv).int_inv, q1 H1 I1 e1⟩
    | _ => exact (show False from q1).elim
  | strm => rw [hv] at q1; exact (show False from q1).elim
  | scr => rw [hv] at q1; exact (show False from q1).elim
/-- a part of read items -/
theorem RdL.cut {H : Hp} {ds : List PyData} {vs : List V} {fp : List Addr} (h : RdL H ds vs fp) (i j : Nat) : ∃ l f r, RdL H ((ds.drop i).take j) ((vs.drop i).take j) f ∧ fp = l ++ (f ++ r) := by
  have hd : ∀ (i : Nat) {ds : List PyData} {vs : List V} {fp : List Addr}, RdL H ds vs fp → ∃ l f, RdL H (ds.drop i) (vs.drop i) f ∧ fp = l ++ f := by
    intro i
    induction i with
    | zero => exact fun h => ⟨[], _, h, rfl⟩
    | succ i ih =>
      intro ds vs fp h
      cases h with
      | nil => exact ⟨[], [], .nil, rfl⟩
      | cons q t =>
        obtain ⟨l, f, h1, rfl⟩ := ih t
        exact ⟨_ ++ l, f, h1, by rw [List.append_assoc]⟩
  have ht : ∀ (j : Nat) {ds : List PyData} {vs : List V} {fp : List Addr}, RdL H ds vs fp → ∃ f r, RdL H (ds.take j) (vs.take j) f ∧ fp = f ++ r := by
    intro j
    induction j with
    | zero => exact fun h => ⟨[], _, .nil, rfl⟩
    | succ j ih =>
      intro ds vs fp h
      cases h with
      | nil => exact ⟨[], [], .nil, rfl⟩
      | cons q t =>
        obtain ⟨f, r, h1, rfl⟩ := ih t
        exact ⟨_ ++ f, r, .cons q h1, by rw [List.append_assoc]⟩
  obtain ⟨l, f, h1, rfl⟩ := hd i h
  obtain ⟨g, r, h2, rfl⟩ := ht j h1
  exact ⟨l, g, r, h2, rfl⟩
/-- a new list of a part's items -/
theorem sub_list {F : Fm} {b b' : Nat} {Hs H : Hp} {x : R} {u : V} {f g : List Addr} {ds : List PyData} {vs : List V} {p : Addr} (I0 : F.Inv b Hs) (I : F.Inv b' H) (e : ExtS F.st Hs H) (hx : F.Rs Hs x u H f) (rd : RdL H ds vs g) (sub : ∀ a ∈ g, a ∈ f) (nd : f.Nodup → g.Nodup) (hp : H p = none) :
    F.Rs Hs (fin (.list ds) x.t (subF x (.list ds))) (.ref p) (upd H p (.lst vs)) (p :: g) := by
  refine new_list I0 I e rd (fun a z => hx.src a (sub a z)) hp ?_
  unfold subF
  split
  · rename_i hp
    have := RdL.pure rd (by rw [← hp]; rfl)
    subst this
    exact .inr ⟨rfl, List.nodup_nil, fun a z => nomatch z⟩
  · cases hf : x.f with
    | all =>
      have z := hx.fr
      rw [hf] at z
      exact .inr ⟨rfl, nd z.1, fun a ha => z.2 a (sub a ha)⟩
    | no => exact .inl rfl
    | top => exact .inl rfl
def rSlX (K : PySem.W.Frag) : V → Option Int → Option Int → Hp → VK → Prop := fun x lo hi H Q => rSlL K x lo hi H Q ∨ rSlA K x lo hi H Q
theorem sl_any : SlR X (rSlX X.K) := SlR.or sl_list sl_tupA
theorem se_sl {e : Expr} {ta : SemE} {lo hi : SemO} (h : PE X e (tSl (rSlX X.K) (TEv XR W Γ ta) (TOv XR W Γ lo) (TOv XR W Γ hi))) : PE X e (TEv XR W Γ (eSl ta lo hi)) :=
  PE_imp h fun σ H Q ⟨F, b, e, I, q⟩ => by
    subst e
    unfold eSl at q
    refine te_bind I .refl q fun b1 x u H1 f1 q1 I1 e1 rs1 => ?_
    refine to_bind I1 e1 q1 fun b2 l H2 q2 I2 e2 => ?_
    refine to_bind I2 (e1.trans e2) q2 fun b3 hh H3 q3 I3 e3 => ?_
    have rs := (rs1.grow I I1.strm e2).grow I I2.strm e3
    have ee := (e1.trans e2).trans e3
    unfold slK at q3
    split at q3
    · rename_i xs hv
      have z := rs.vr.nil hv
      cases z with
      | lst a1 t1 =>
        rename_i aa vs fpp
        refine .inl ⟨_, _, rfl, SqL.of a1, fun p hp => ?_⟩
        obtain ⟨l', f', r', c1, c2⟩ := t1.cut (HT.sIx xs.length 0 l) (HT.sIx xs.length xs.length hh - HT.sIx xs.length 0 l)
        have sub : ∀ a ∈ f', a ∈ aa :: fpp := fun a z => List.mem_cons_of_mem _ (by rw [c2]; exact sub_mid a z)
        have k := sub_list I I3 ee rs c1 sub (fun n => nodup_mid (by rw [← c2]; exact (List.nodup_cons.mp n).2)) hp
        refine q3 (.ref p) _ (p :: f') (I3.new hp) (ee.trans (.new hp)) ?_
        unfold cutV
        rw [← t1.length]
        exact k
    · rename_i xs hv
      have z := rs.vr.nil hv
      cases z with
      | tup a1 t1 =>
        rename_i a vs
        obtain ⟨l', f', r', c1, c2⟩ := t1.cut (HT.sIx xs.length 0 l) (HT.sIx xs.length xs.length hh - HT.sIx xs.length 0 l)
        refine .inr ⟨_, _, rfl, SqT.of a1, fun hw => ?_, fun hw p hp => ?_⟩
        · have ec : cutD xs l hh = xs := by
            unfold cutD
            rw [← t1.length] at hw
            rw [hw.1, hw.2]
            simp
          exact q3 (.ref a) H3 f1 I3 ee (by rw [ec]; exact part_rs rs (.tup a1 t1) (fun _ z => z) id)
        · have x1 : ExtS F.st H3 (upd H3 p (.tup (cutV vs l hh))) := .new hp
          have sub : ∀ a ∈ f', a ∈ f1 := fun a z => by rw [c2]; exact sub_mid a z
          refine q3 (.ref p) _ f' (I3.new hp) (ee.trans x1) (part_rs (rs.grow I I3.strm x1) (.tup upd_same ?_) sub fun n => nodup_mid (by rw [← c2]; exact n))
          refine RdL.ext ?_ I3.strm (fun a z => (rs.own I a (sub a z)).2) x1
          unfold cutV
          rw [← t1.length]
          exact c1
    · exact q3.elim
theorem RdL.rev {H : Hp} : ∀ {ds : List PyData} {vs : List V} {fp : List Addr}, RdL H ds vs fp → ∃ f, RdL H ds.reverse vs.reverse f ∧ (∀ a, a ∈ f ↔ a ∈ fp)
  | _, _, _, .nil => ⟨[], .nil, fun a => Iff.rfl⟩
  | _, _, _, .cons (f := f1) (g := g1) q t => by
    obtain ⟨f, h, k⟩ := RdL.rev t
    simp only [List.reverse_cons]
    exact ⟨f ++ f1, h.append (RdL.one q), fun a => by simp only [List.mem_append, k a]; exact Or.comm⟩
theorem se_rev {e : Expr} {ta : SemE} (h : PE X e (tRevL X.K (TEv XR W Γ ta))) : PE X e (TEv XR W Γ (eRev ta)) :=
  PE_imp h fun σ H Q ⟨F, b, e, I, q⟩ => by
    subst e
    unfold eRev eMon at q
    refine te_bind I .refl q fun b1 x u H1 f1 q1 I1 e1 rs => ?_
    unfold revK at q1
    split at q1
    · rename_i xs hv
      have z := rs.vr.nil hv
      cases z with
      | lst a1 t1 =>
        rename_i a vs fp
        refine ⟨_, _, rfl, SqL.of a1, fun p hp => ?_⟩
        obtain ⟨f, rd, hf⟩ := t1.rev
        have sub : ∀ c ∈ f, c ∈ a :: fp := fun c z => List.mem_cons_of_mem _ ((hf c).mp z)
        refine q1 (.ref p) _ (p :: f) (I1.new hp) (e1.trans (.new hp)) (new_list I I1 e1 rd (fun a z => rs.src a (sub a z)) hp ?_)
        split
        · rename_i hp
          have := RdL.pure t1 (by rw [← hp]; rfl)
          subst this
          have : f = [] := List.eq_nil_iff_forall_not_mem.mpr fun a z => by
            have := (hf a).mp z
            cases this
          subst this
          exact .inr ⟨rfl, List.nodup_nil, fun a z => nomatch z⟩
        · exact .inl rfl
    · exact q1.elim
/-! ### one argument -/
theorem un_of {r : List V → Hp → VK → Prop} {t : TE} {e : Expr} (h : PE X e (tCB r (tCons t tNil))) : PE X e (tUn (fun x H Q => r [x] H Q) t) := h
theorem k_len (H : Hp) (d z : PyData) (x : V) (f : List Addr) (Q : VK) (e : oLen d = some z) (h : Rd H d x f) (q : ∀ v, Rd H z v [] → Q v H) : (fun xs (H : Hp) (Q : VK) => ∃ x n, xs = [x] ∧ LenV X.K x H n ∧ Q (.int n) H : List V → Hp → VK → Prop) [x] H Q := by
  cases h with
  | lst a t => cases e; exact ⟨_, _, rfl, .inl ⟨_, SqL.of a, rfl⟩, q _ (by rw [t.length]; exact .int _)⟩
  | tup a t => cases e; exact ⟨_, _, rfl, .inr ⟨_, SqT.of a, rfl⟩, q _ (by rw [t.length]; exact .int _)⟩
  | str y =>
    change (if y.length ≤ 16777216 then some (PyData.int y.length) else none) = some z at e
    split at e
    · rename_i hl
      cases e
      exact ⟨_, _, rfl, ⟨by rw [sizeLine_eq]; exact hl, rfl⟩, q _ (.int _)⟩
    · cases e
  | _ => cases e
theorem bools_inv {H : Hp} : ∀ {ds : List PyData} {vs : List V} {fp : List Addr} {bs : List Bool}, RdL H ds vs fp → bools ds = some bs → vs = bs.map V.bl
  | [], _, _, _, .nil, e => by cases e; rfl
  | d :: ds, _, _, bs, .cons h t, e => by
    cases h with
    | bl c =>
      have e' : (bools ds).map (c :: ·) = some bs := e
      obtain ⟨r, e1, rfl⟩ := Option.map_eq_some_iff.mp e'
      rw [bools_inv t e1]
      rfl
    | _ => cases e
theorem ints_inv {H : Hp} : ∀ {ds : List PyData} {vs : List V} {fp : List Addr} {bs : List Int}, RdL H ds vs fp → intsD ds = some bs → vs = bs.map V.int
  | [], _, _, _, .nil, e => by cases e; rfl
  | d :: ds, _, _, bs, .cons h t, e => by
    cases h with
    | int c =>
      have e' : (intsD ds).map (c :: ·) = some bs := e
      obtain ⟨r, e1, rfl⟩ := Option.map_eq_some_iff.mp e'
      rw [ints_inv t e1]
      rfl
    | _ => cases e
theorem k_all (H : Hp) (d z : PyData) (x : V) (f : List Addr) (Q : VK) (e : oAll d = some z) (h : Rd H d x f) (q : ∀ v, Rd H z v [] → Q v H) : rAll X.K [x] H Q := by
  cases h with
  | lst a t =>
    obtain ⟨bs, e1, rfl⟩ := Option.map_eq_some_iff.mp (show (bools _).map _ = some z from e)
    exact ⟨_, bs, rfl, by rw [← bools_inv t e1]; exact SqL.of a, q _ (.bl _)⟩
  | _ => cases e
theorem k_any (H : Hp) (d z : PyData) (x : V) (f : List Addr) (Q : VK) (e : oAny d = some z) (h : Rd H d x f) (q : ∀ v, Rd H z v [] → Q v H) : rAny X.K [x] H Q := by
  cases h with
  | lst a t =>
    obtain ⟨bs, e1, rfl⟩ := Option.map_eq_some_iff.mp (show (bools _).map _ = some z from e)
    exact ⟨_, bs, rfl, by rw [← bools_inv t e1]; exact SqL.of a, q _ (.bl _)⟩
  | _ => cases e
theorem k_sum (H : Hp) (d z : PyData) (x : V) (f : List Addr) (Q : VK) (e : oSum d = some z) (h : Rd H d x f) (q : ∀ v, Rd H z v [] → Q v H) : rSum X.K [x] H Q := by
  cases h with
  | lst a t =>
    obtain ⟨bs, e1, rfl⟩ := Option.map_eq_some_iff.mp (show (intsD _).map _ = some z from e)
    exact ⟨_, bs, rfl, by rw [← ints_inv t e1]; exact SqL.of a, q _ (.int _)⟩
  | _ => cases e
theorem k_toInt (H : Hp) (d z : PyData) (x : V) (f : List Addr) (Q : VK) (e : oInt d = some z) (h : Rd H d x f) (q : ∀ v, Rd H z v [] → Q v H) :
    (fun xs (H : Hp) (Q : VK) => (∃ i, xs = [.int i] ∧ Q (.int i) H) ∨ ∃ k, xs = [.bl k] ∧ Q (.int (if k then 1 else 0)) H : List V → Hp → VK → Prop) [x] H Q := by
  cases h with
  | int i => cases e; exact .inl ⟨i, rfl, q _ (.int _)⟩
  | bl c => cases e; exact .inr ⟨c, rfl, q _ (.int _)⟩
  | _ => cases e
theorem k_abs (H : Hp) (d z : PyData) (x : V) (f : List Addr) (Q : VK) (e : oAbs d = some z) (h : Rd H d x f) (q : ∀ v, Rd H z v [] → Q v H) :
    (fun xs (H : Hp) (Q : VK) => ∃ i, xs = [.int i] ∧ Q (.int (if i < 0 then -i else i)) H : List V → Hp → VK → Prop) [x] H Q := by
  cases h with
  | int i => cases e; exact ⟨i, rfl, q _ (.int _)⟩
  | _ => cases e
theorem k_neg (H : Hp) (d z : PyData) (x : V) (f : List Addr) (Q : VK) (e : oNeg d = some z) (h : Rd H d x f) (q : ∀ v, Rd H z v [] → Q v H) : rU (fun i => .int (-i)) x H Q := by
  cases h with
  | int i => cases e; exact ⟨i, rfl, q _ (.int _)⟩
  | _ => cases e
/-- list(x), tuple(x) -/
def rListOf (K : PySem.W.Frag) : List V → Hp → VK → Prop := fun xs H Q => ∃ p ys, xs = [.ref p] ∧ (SqL K H p ys ∨ SqT K H p ys) ∧ ∀ l, H l = none → Q (.ref l) (upd H l (.lst ys))
def rTupleOf (K : PySem.W.Frag) : List V → Hp → VK → Prop := fun xs H Q => ∃ p ys, xs = [.ref p] ∧ ((SqL K H p ys ∧ ∀ l, H l = none → Q (.ref l) (upd H l (.tup ys))) ∨ (SqT K H p ys ∧ Q (.ref p) H))
theorem k_list (F : Fm) (b0 b : Nat) (Hs H : Hp) (x : R) (u : V) (f : List Addr) (Q : VK) (E : Nat → XV → Prop) (I0 : F.Inv b0 Hs) (I : F.Inv b H) (e : ExtS F.st Hs H) (hx : F.Rs Hs x u H f) (q : wpB b (listK x) (F.QP Hs Q) E) : rListOf X.K [u] H Q := by
  unfold listK at q
  split at q
  · rename_i xs hv
    have z := hx.vr.nil hv
    cases z with
    | lst a t => exact ⟨_, _, rfl, .inl (SqL.of a), fun p hp => q (.ref p) _ _ (I.new hp) (e.trans (.new hp)) (sub_list I0 I e hx t (fun a z => List.mem_cons_of_mem _ z) (fun n => (List.nodup_cons.mp n).2) hp)⟩
  · rename_i xs hv
    have z := hx.vr.nil hv
    cases z with
    | tup a t => exact ⟨_, _, rfl, .inr (SqT.of a), fun p hp => q (.ref p) _ _ (I.new hp) (e.trans (.new hp)) (sub_list I0 I e hx t (fun a z => z) id hp)⟩
  · exact q.elim
theorem k_tuple (F : Fm) (b0 b : Nat) (Hs H : Hp) (x : R) (u : V) (f : List Addr) (Q : VK) (E : Nat → XV → Prop) (I0 : F.Inv b0 Hs) (I : F.Inv b H) (e : ExtS F.st Hs H) (hx : F.Rs Hs x u H f) (q : wpB b (tupleK x) (F.QP Hs Q) E) : rTupleOf X.K [u] H Q := by
  unfold tupleK at q
  split at q
  · rename_i xs hv
    have z := hx.vr.nil hv
    cases z with
    | lst a t =>
      rename_i a vs fp
      refine ⟨_, _, rfl, .inl ⟨SqL.of a, fun p hp => ?_⟩⟩
      have x1 : ExtS F.st H (upd H p (.tup vs)) := .new hp
      exact q (.ref p) _ _ (I.new hp) (e.trans x1) (part_rs (hx.grow I0 I.strm x1) (.tup upd_same (t.ext I.strm (fun a z => (hx.own I0 a (List.mem_cons_of_mem _ z)).2) x1)) (fun a z => List.mem_cons_of_mem _ z) (fun n => (List.nodup_cons.mp n).2))
  · rename_i xs hv
    have z := hx.vr.nil hv
    cases z with
    | tup a t => exact ⟨_, _, rfl, .inr ⟨SqT.of a, q _ H _ I e (part_rs hx (.tup a t) (fun a z => z) id)⟩⟩
  · exact q.elim
end
end DD
set_option Elab.async false
set_option linter.all false
set_option maxRecDepth 100000
set_option maxHeartbeats 4000000
/-! DS7: isinstance, calls of one's own defs. -/
namespace DD
open PySem PySem.Spec PyProof.Rows L2
/-! ### isinstance -/
def tyN : PyData → String
  | .none => "NoneType"
  | .bool _ => "bool"
  | .int _ => "int"
  | .str _ => "str"
  | .list _ => "list"
  | .tuple _ => "tuple"
  | .dict _ => "dict"
def Ty.nm : Ty → String
  | .list => "list"
  | .tuple => "tuple"
  | .int => "int"
  | .bool => "bool"
  | .str => "str"
  | .dict => "dict"
theorem Rd.ty {K : PySem.W.Frag} {H : Hp} {d : PyData} {x : V} {f : List Addr} (h : Rd H d x f) : TyX K H x (.type (tyN d)) := by
  cases h with
  | non => exact .base .non
  | bl b => exact .base (.bl b)
  | int i => exact .base (.int i)
  | str x => exact .base (.str x)
  | lst e t => exact .base (.lst e)
  | tup e t => exact .base (.tup e)
  | dK e q t => exact .base (.dK e)
  | dT _ e q t => exact .base (.dT e)
theorem kit_isTy (d : PyData) (T : Ty) : kitB (tyN d) T.nm = some (isTy d T) := by
  cases d <;> cases T <;> (simp only [tyN, Ty.nm, isTy]; decide +kernel)
theorem kit_any {K : PySem.W.Frag} (d : PyData) : ∀ ts : List Ty, PySem.W.kitAny K (.type (tyN d)) (ts.map fun T => .type T.nm) = some (ts.any (isTy d))
  | [] => kitAny_nil
  | T :: ts => by
    refine kitAny_cons (kit_ty (kit_isTy d T)) (fun h => ?_) fun h => by rw [List.any_cons, h]; rfl
    rw [kit_any d ts, List.any_cons, h]
    rfl
/-- the classes of isinstance's second argument -/
def tTys : List Ty → TA
  | [] => tNil
  | T :: ts => tCons (tC (.ty T.nm)) (tTys ts)
theorem tTys_run {σ : L2.St} {H : Hp} : ∀ {ts : List Ty} {Q : List V → Hp → Prop}, Q (ts.map fun T => V.ty T.nm) H → tTys ts σ H Q
  | [], _, h => h
  | T :: ts, Q, h => tTys_run (ts := ts) (Q := fun xs H2 => Q (V.ty T.nm :: xs) H2) h
section
variable {X : Cx} {XR : XRel} {W : WX} {Γ : FEnv}
theorem se_isi1 {e : Expr} {ta : SemE} {T : Ty} (h : PE X e (tCB (rIsi X.K) (tCons (TEv XR W Γ ta) (tCons (tC (.ty T.nm)) tNil)))) : PE X e (TEv XR W Γ (eIsi ta [T])) :=
  se_un (r := fun x H Q => rIsi X.K [x, .ty T.nm] H Q) h fun H d z x f Q e h q => by
    cases e
    refine ⟨x, _, _, _, _, rfl, .ty _, h.ty, kit_ty (kit_isTy d T), ?_⟩
    have : [T].any (isTy d) = isTy d T := by simp
    rw [← this]
    exact q _ (.bl _)
theorem paired_tys : ∀ ts : List Ty, Paired ClsV (ts.map fun T => V.ty T.nm) (ts.map fun T => Value.type T.nm)
  | [] => .nil
  | _ :: ts => .cons (.ty _) (paired_tys ts)
theorem se_isiT {e : Expr} {ta : SemE} {ts : List Ty} (h : PE X e (tCB (rIsiT X.K) (tCons (TEv XR W Γ ta) (tCons (L2.tTup (tTys ts)) tNil)))) (hl : ts.length ≤ 10) : PE X e (TEv XR W Γ (eIsi ta ts)) :=
  PE_imp h fun σ H Q ⟨F, b, e, I, q⟩ => by
    subst e
    unfold eIsi eUn at q
    refine te_bind I .refl q fun b1 r1 x H1 f1 q1 I1 e1 rs1 => ?_
    refine tTys_run ⟨?_, fun p hp => ?_⟩
    · rw [List.length_map, sizeLine_eq]; omega
    · cases hv : r1.v with
      | dat d =>
        rw [hv] at q1
        have x1 : ExtS F.st H1 (upd H1 p (.tup (ts.map fun T => V.ty T.nm))) := .new hp
        have rd := ((rs1.grow I I1.strm x1).vr.nil hv)
        refine ⟨x, p, _, _, _, _, rfl, upd_same, paired_tys ts, rd.ty, kit_any d ts, ?_⟩
        exact qp_pure q1 (I1.new hp) (e1.trans x1) (.bl _)
      | strm => rw [hv] at q1; exact (show False from q1).elim
      | scr => rw [hv] at q1; exact (show False from q1).elim
end
/-! ### own defs -/
inductive VRL (st : StT) (H : Hp) : List Vl → List V → List (List Addr) → Prop
  | nil : VRL st H [] [] []
  | cons {x : Vl} {v : V} {xs : List Vl} {vs : List V} {f : List Addr} {fs : List (List Addr)} : VR st H x v f → VRL st H xs vs fs → VRL st H (x :: xs) (v :: vs) (f :: fs)
/-- a def's promise: it does what its meaning says -/
def SpG (XR : XRel) (n : Nat) (g : List Vl → M (Vl × Fr)) : Sp := fun vs H Q E => vs.length = n ∧ ∃ (A : Addr → Prop) (st : StT) (b : Nat) (xs : List Vl) (fs : List (List Addr)),
  VRL st H xs vs fs ∧ (∀ f ∈ fs, ∀ a ∈ f, A a ∧ ¬ stC st a) ∧ StOk st b H ∧
  wpB b (g xs) (fun b' z => ∀ v H' fp, ExtS st H H' → StOk st b' H' → VR st H' z.1 v fp → (∀ a ∈ fp, Own A H st a) → FrOk z.2 fp → (∀ a ∈ exs z.2 fp, H a = none) → Q v H')
    (fun b' x => ∀ cls d H', ExtS st H H' → StOk st b' H' → XR x cls d H' → E cls d H')
section
variable {X : Cx} {XR : XRel} {W : WX} {Γ : FEnv}
theorem RsAll.vrl {F : Fm} {Hs H : Hp} {rs : List R} {vs : List V} {fs : List (List Addr)} (h : RsAll F Hs H rs vs fs) : VRL F.st H (rs.map (·.v)) vs fs := by
  induction h with
  | nil => exact .nil
  | cons r t d ih => exact .cons r.vr ih
/-- what a call hands back -/
theorem call_rs {F : Fm} {b' : Nat} {Hs H H' : Hp} {t : List Nat} {z : Vl × Fr} {v : V} {fp cs : List Addr} (I : F.Inv b' H) (e : ExtS F.st Hs H) (vr : VR F.st H' z.1 v fp) (src : ∀ a ∈ cs, Src F.σd F.fps Hs t a) (own : ∀ a ∈ fp, Own (· ∈ cs) H F.st a)
    (fr : FrOk z.2 fp) (fr2 : ∀ a ∈ exs z.2 fp, H a = none) : F.Rs Hs (finV z.1 t z.2) v H' fp := by
  have sr : ∀ a ∈ fp, Src F.σd F.fps Hs t a := fun a ha => (own a ha).1.elim (src a) fun n => .inl (e.2 a n)
  obtain ⟨zv, zf⟩ := z
  cases zv with
  | dat d => exact RsOk.fin vr sr fr fun a ha => e.2 a (fr2 a ha)
  | strm =>
    refine ⟨vr, fun a ha => ?_, trivial, fun a ha => nomatch ha⟩
    rw [vr.1] at ha
    cases ha
  | scr => exact vr.elim
theorem sp_call {F : Fm} {b0 b : Nat} {Hs H : Hp} {rs : List R} {vs : List V} {fs : List (List Addr)} {g : List Vl → M (Vl × Fr)} {Q : VK} {n : Nat} (hg : ∀ xs, xs.length ≠ n → g xs = .fail) (I0 : F.Inv b0 Hs) (I : F.Inv b H) (e : ExtS F.st Hs H) (h : RsAll F Hs H rs vs fs)
    (q : wpB b (g (rs.map (·.v)) >>= fun z => M.ret (finV z.1 (tsOf rs) z.2)) (F.QP Hs Q) (F.EP XR W Hs)) : SpG XR n g vs H Q fun cls d H' => W cls d F.σ H' := by
  have hn : vs.length = n := by
    by_cases hn : vs.length = n
    · exact hn
    · rw [hg _ (by rw [List.length_map, h.len]; exact hn)] at q
      exact (show False from q).elim
  refine ⟨hn, (· ∈ fs.flatten), F.st, b, _, fs, h.vrl, fun f hf a ha => ⟨List.mem_flatten.mpr ⟨f, hf, ha⟩, (h.own I0 a (List.mem_flatten.mpr ⟨f, hf, ha⟩)).2⟩, I.strm, ?_⟩
  refine wpB_mono (fun b' z k v H' fp e' s' vr own fr fr2 => ?_) (fun b' x k cls d H' e' s' xr => ?_) _ _ ((wpB_bind _ _).mp q)
  · exact k v H' fp (I.grow e' s') (e.trans e') (call_rs I e vr h.src own fr fr2)
  · exact k cls d H' (I.grow e' s') (e.trans e') xr
/-- f(..), f a def of one's own -/
theorem se_call {e : Expr} {ta : SemA} {i n : Nat} (hg : ∀ xs, xs.length ≠ n → Γ i xs = .fail) (h : PE X e (tCallSD (SpG XR n (Γ i)) [] (fun σ cls d H' => W cls d σ H') (TAv XR W Γ ta))) : PE X e (TEv XR W Γ (eCall i ta)) :=
  PE_imp h fun σ H Q ⟨F, b, e, I, q⟩ => by
    subst e
    unfold eCall at q
    refine ta_bind I .refl q fun b1 rs vs H1 fs q1 I1 e1 rs1 => ?_
    show SpG XR n (Γ i) (vs ++ []) H1 Q _
    rw [List.append_nil]
    exact sp_call hg I I1 e1 rs1 q1
end
end DD
set_option Elab.async false
set_option linter.all false
set_option maxRecDepth 100000
set_option maxHeartbeats 4000000
/-! DS8: statements. -/
namespace DD
open PySem PySem.Spec PyProof.Rows L2
/-- what is wanted of an error behind a statement -/
def Fm.ES (F : Fm) (XR : XRel) (W : WX) : Nat → XV → Prop := fun b x => ∀ cls d σ' H', ExtS F.st F.H0 H' → StOk F.st b H' → XR x cls d H' → W cls d σ' H'
def Fm.OQ (F : Fm) (D : Ends) : Nat → Out → Prop := fun b o => match o with
  | .nx σd => ∀ fps σ H, InvD F.A F.H0 F.st b σd fps σ H → D.nx σ H
  | .bk σd => ∀ fps σ H, InvD F.A F.H0 F.st b σd fps σ H → D.bk σ H
  | .ct σd => ∀ fps σ H, InvD F.A F.H0 F.st b σd fps σ H → D.ct σ H
  | .rt x f σd => ∀ fps σ v H fp, InvD F.A F.H0 F.st b σd fps σ H → VR F.st H x v fp → (∀ a ∈ fp, Own F.A F.H0 F.st a) → FrOk f fp → (∀ a ∈ exs f fp, F.H0 a = none) → (∀ j s, σd[j]? = some (some s) → (∀ a ∈ exs s.m (fps j), a ∉ fp) ∧ ∀ a ∈ exs f fp, a ∉ fps j) → D.rt v H
def TSv (XR : XRel) (W : WX) (Γ : FEnv) (f : SemS) : TS := fun D σ H => ∃ (F : Fm) (b : Nat), F.σ = σ ∧ F.Inv b H ∧ wpB b (f Γ F.σd) (F.OQ D) (F.ES XR W)
theorem Fm.ES_EP {F : Fm} {XR : XRel} {W : WX} {Hb : Hp} {b : Nat} {x : XV} (h : F.ES XR W b x) : F.EP XR W Hb b x := fun cls d H' I _ r => h cls d F.σ H' I.ext I.strm r
/-! ### slots handed on, set -/
theorem demote_get (t : List Nat) (σ : SD) (i : Nat) : (demote t σ)[i]? = σ[i]?.map fun o => match o with
    | some s => some (if i ∈ t then ⟨s.v, .no⟩ else s)
    | none => none := by
  unfold demote
  rw [List.getElem?_mapIdx]
  all_goals
    cases σ[i]? with
    | none => rfl
    | some o => cases o <;> rfl
theorem demote_some {t : List Nat} {σ : SD} {i : Nat} {s : Sl} (h : (demote t σ)[i]? = some (some s)) : ∃ s0, σ[i]? = some (some s0) ∧ s.v = s0.v ∧ ((i ∈ t ∧ s.m = .no) ∨ (i ∉ t ∧ s = s0)) := by
  rw [demote_get] at h
  cases e : σ[i]? with
  | none => rw [e] at h; cases h
  | some o =>
    rw [e] at h
    cases o with
    | none => cases h
    | some s0 =>
      have h' : (if i ∈ t then (⟨s0.v, .no⟩ : Sl) else s0) = s := by simpa using h
      subst h'
      refine ⟨s0, rfl, ?_⟩
      by_cases hi : i ∈ t
      · rw [if_pos hi]; exact ⟨rfl, .inl ⟨hi, rfl⟩⟩
      · rw [if_neg hi]; exact ⟨rfl, .inr ⟨hi, rfl⟩⟩
theorem demote_len (t : List Nat) (σ : SD) : (demote t σ).length = σ.length := by simp [demote]
theorem demote_of {t : List Nat} {σ : SD} {i : Nat} {s : Sl} (h : σ[i]? = some (some s)) : (demote t σ)[i]? = some (some (if i ∈ t then ⟨s.v, .no⟩ else s)) := by
  rw [demote_get, h]
  rfl
section
variable {A : Addr → Prop} {H0 : Hp} {st : StT} {b : Nat} {σd : SD} {fps : Nat → List Addr} {σ : L2.St} {H : Hp}
theorem InvD.demote (I : InvD A H0 st b σd fps σ H) (t : List Nat) : InvD A H0 st b (demote t σd) fps σ H := by
  refine ⟨I.len.trans (demote_len _ _).symm, I.ext, I.strm, fun i s h => ?_, fun i s h => ?_, fun i s h => ?_⟩
  · obtain ⟨s0, e, ev, _⟩ := demote_some h
    rw [ev]
    exact I.slot i s0 e
  · obtain ⟨s0, e, ev, _⟩ := demote_some h
    exact I.own i s0 e
  · obtain ⟨s0, e, ev, q⟩ := demote_some h
    rcases q with ⟨hi, hm⟩ | ⟨hi, rfl⟩
    · rw [hm]
      exact ⟨trivial, fun a z => nomatch z⟩
    · refine ⟨(I.fr i s e).1, fun a ha => ⟨((I.fr i s e).2 a ha).1, fun j s' hj h' => ?_⟩⟩
      obtain ⟨s1, e1, _, _⟩ := demote_some h'
      exact ((I.fr i s e).2 a ha).2 j s1 hj e1
theorem InvD.less (I : InvD A H0 st b σd fps σ H) {σd' : SD} (l : σd'.length = σd.length) (h : ∀ (i : Nat) (s : Sl), σd'[i]? = some (some s) → σd[i]? = some (some s)) : InvD A H0 st b σd' fps σ H :=
  ⟨I.len.trans l.symm, I.ext, I.strm, fun i s e => I.slot i s (h i s e), fun i s e => I.own i s (h i s e), fun i s e => ⟨(I.fr i s (h i s e)).1, fun a ha => ⟨((I.fr i s (h i s e)).2 a ha).1, fun j s' hj e' => ((I.fr i s (h i s e)).2 a ha).2 j s' hj (h j s' e')⟩⟩⟩
theorem set_none {i j : Nat} {s : Sl} (h : (σd.set i none)[j]? = some (some s)) : j ≠ i ∧ σd[j]? = some (some s) := by
  by_cases hj : j = i
  · subst hj
    rw [List.getElem?_set] at h
    simp only [if_true] at h
    split at h <;> cases h
  · rw [List.getElem?_set_ne (Ne.symm hj)] at h
    exact ⟨hj, h⟩
theorem InvD.wipe1 (I : InvD A H0 st b σd fps σ H) (i : Nat) : InvD A H0 st b (σd.set i none) fps σ H := I.less (List.length_set ..) fun j s h => (set_none h).2
/-- the cells that some slot holds alone, after handing t on, are no cells of a result with these slots -/
theorem Src.apart {t : List Nat} {a : Addr} {Hs : Hp} (h : Src σd fps Hs t a) (I : InvD A H0 st b σd fps σ Hs) {j : Nat} {s : Sl} (hj : (DD.demote t σd)[j]? = some (some s)) : a ∉ exs s.m (fps j) := fun ha => by
  obtain ⟨s0, e, ev, q⟩ := demote_some hj
  rcases q with ⟨hi, hm⟩ | ⟨hi, rfl⟩
  · rw [hm] at ha
    cases ha
  · rcases h with h | ⟨i, s', e', y, w⟩
    · exact I.slotDom e (exs_sub ha) h
    · by_cases c : i = j
      · subst c
        rw [e] at e'
        cases e'
        exact hi (w ha)
      · exact ((I.fr j s e).2 a ha).2 i s' c e' y
/-- a slot is set to a value that no slot holds alone -/
theorem InvD.set {i : Nat} {x : Vl} {m : Fr} {v : V} {fp : List Addr} (I : InvD A H0 st b σd fps σ H) (vr : VR st H x v fp) (own : ∀ a ∈ fp, Own A H0 st a) (ap : ∀ j s, j ≠ i → σd[j]? = some (some s) → ∀ a ∈ exs s.m (fps j), a ∉ fp)
    (fr : FrOk m fp) (fr2 : ∀ a ∈ exs m fp, H0 a = none ∧ ∀ j s, j ≠ i → σd[j]? = some (some s) → a ∉ fps j) : InvD A H0 st b (σd.set i (some ⟨x, m⟩)) (fun j => if j = i then fp else fps j) (σ.set i (some v)) H := by
  have key : ∀ {j : Nat} {s : Sl}, (σd.set i (some ⟨x, m⟩))[j]? = some (some s) → (j = i ∧ s = ⟨x, m⟩ ∧ i < σd.length) ∨ (j ≠ i ∧ σd[j]? = some (some s)) := fun {j s} h => by
    by_cases hj : j = i
    · subst hj
      rw [List.getElem?_set] at h
      simp only [if_true] at h
      split at h
      · rename_i hl
        cases h
        exact .inl ⟨rfl, rfl, hl⟩
      · cases h
    · rw [List.getElem?_set_ne (Ne.symm hj)] at h
      exact .inr ⟨hj, h⟩
  refine ⟨by rw [List.length_set, List.length_set]; exact I.len, I.ext, I.strm, fun j s h => ?_, fun j s h => ?_, fun j s h => ?_⟩
  · rcases key h with ⟨rfl, rfl, hl⟩ | ⟨hj, h⟩
    · exact ⟨v, List.getElem?_set_self (by rw [I.len]; exact hl), by rw [if_pos rfl]; exact vr⟩
    · obtain ⟨u, e1, e2⟩ := I.slot j s h
      exact ⟨u, by rw [List.getElem?_set_ne (Ne.symm hj)]; exact e1, by rw [if_neg hj]; exact e2⟩
  · rcases key h with ⟨rfl, rfl, hl⟩ | ⟨hj, h⟩
    · rw [if_pos rfl]; exact own
    · rw [if_neg hj]; exact I.own j s h
  · rcases key h with ⟨rfl, rfl, hl⟩ | ⟨hj, h2⟩
    · rw [if_pos rfl]
      refine ⟨fr, fun a ha => ⟨(fr2 a ha).1, fun k s' hk h' => ?_⟩⟩
      rcases key h' with ⟨rfl, _, _⟩ | ⟨_, h3⟩
      · exact absurd rfl hk
      · rw [if_neg hk]; exact (fr2 a ha).2 k s' hk h3
    · rw [if_neg hj]
      refine ⟨(I.fr j s h2).1, fun a ha => ⟨((I.fr j s h2).2 a ha).1, fun k s' hk h' => ?_⟩⟩
      rcases key h' with ⟨hki, _, _⟩ | ⟨hk', h3⟩
      · rw [if_pos hki]; exact ap j s hj h2 a ha
      · rw [if_neg hk']; exact ((I.fr j s h2).2 a ha).2 k s' hk h3
/-- a result is put into a slot -/
theorem InvD.setR {b0 : Nat} {i : Nat} {r : R} {v : V} {fp : List Addr} {Hs : Hp} (I0 : InvD A H0 st b0 σd fps σ Hs) (I : InvD A H0 st b σd fps σ H) (rs : RsOk A H0 st σd fps Hs r v H fp) :
    InvD A H0 st b (setS i r σd) (fun j => if j = i then fp else fps j) (σ.set i (some v)) H := by
  refine (I.demote r.t).set rs.vr (rs.own I0) (fun j s hj h a ha z => (rs.src a z).apart I0 h ha) rs.fr.1 fun a ha => ⟨I0.h0 (rs.fr.2 a ha), fun j s hj h z => ?_⟩
  obtain ⟨s0, e, _⟩ := demote_some h
  exact I0.slotDom e z (rs.fr.2 a ha)
end
section
variable {X : Cx} {XR : XRel} {W : WX} {Γ : FEnv}
theorem ts_bindE {F : Fm} {b : Nat} {H : Hp} {f : SemE} {k : R → M Out} {D : Ends} {Q : VK} (I : F.Inv b H) (h : wpB b (f Γ F.σd >>= k) (F.OQ D) (F.ES XR W))
    (q : ∀ b' r v H' fp, wpB b' (k r) (F.OQ D) (F.ES XR W) → F.Inv b' H' → ExtS F.st H H' → F.Rs H r v H' fp → Q v H') : TEv XR W Γ f F.σ H Q :=
  ⟨F, b, rfl, I, wpB_mono (fun b' r z v H' fp I' e' rs => q b' r v H' fp z I' e' rs) (fun _ _ => F.ES_EP) _ _ ((wpB_bind _ _).mp h)⟩
theorem ts_bindT {F : Fm} {b : Nat} {H : Hp} {f : SemT} {k : Bool → M Out} {D : Ends} {Q : Bool → Hp → Prop} (I : F.Inv b H) (h : wpB b (f Γ F.σd >>= k) (F.OQ D) (F.ES XR W))
    (q : ∀ b' c H', wpB b' (k c) (F.OQ D) (F.ES XR W) → F.Inv b' H' → ExtS F.st H H' → Q c H') : TTv XR W Γ f F.σ H Q :=
  ⟨F, b, rfl, I, wpB_mono (fun b' c z H' I' e' => q b' c H' z I' e') (fun _ _ => F.ES_EP) _ _ ((wpB_bind _ _).mp h)⟩
theorem ss_fail {s : Stmt} : PS X s (TSv XR W Γ sFail) := ⟨fun _ _ _ _ _ _ ⟨_, _, _, _, q⟩ => q.elim⟩
theorem ss_fails {s : List Stmt} : PSs X s (TSv XR W Γ sFail) := ⟨fun _ _ _ _ _ _ ⟨_, _, _, _, q⟩ => q.elim⟩
theorem ss_nil {s : Stmt} (h : PS X s tNext) : PS X s (TSv XR W Γ sNil) := PS_imp h fun D σ H ⟨F, b, e, I, q⟩ => e ▸ q _ _ _ I
theorem ss_nils : PSs X [] (TSv XR W Γ sNil) := PSs_imp pss_nil fun D σ H ⟨F, b, e, I, q⟩ => e ▸ q _ _ _ I
theorem ss_brk {s : Stmt} (h : PS X s tBreak) : PS X s (TSv XR W Γ sBrk) := PS_imp h fun D σ H ⟨F, b, e, I, q⟩ => e ▸ q _ _ _ I
theorem ss_cont {s : Stmt} (h : PS X s tCont) : PS X s (TSv XR W Γ sCont) := PS_imp h fun D σ H ⟨F, b, e, I, q⟩ => e ▸ q _ _ _ I
/-- a frame of the same entry -/
abbrev Fm.at_ (F : Fm) (σd : SD) (fps : Nat → List Addr) (σ : L2.St) : Fm := { F with σd := σd, fps := fps, σ := σ }
theorem ss_seq {s : Stmt} {r : List Stmt} {f g : SemS} (h1 : PS X s (TSv XR W Γ f)) (h2 : PSs X r (TSv XR W Γ g)) : PSs X (s :: r) (TSv XR W Γ (sSeq f g)) :=
  PSs_imp (pss_cons h1 h2) fun D σ H ⟨F, b, e, I, q⟩ => by
    subst e
    refine ⟨F, b, rfl, I, wpB_mono (fun b' o z => ?_) (fun _ _ z => z) _ _ ((wpB_bind _ _).mp q)⟩
    cases o with
    | nx σd => exact fun fps σ' H' I' => ⟨F.at_ σd fps σ', b', rfl, I', z⟩
    | bk σd => exact z
    | ct σd => exact z
    | rt v f σ => exact z
theorem ss_expr {s : Stmt} {te : SemE} (h : PS X s (tDrop (TEv XR W Γ te))) : PS X s (TSv XR W Γ (sExpr te)) := PS_imp h fun D σ H ⟨F, b, e, I, q⟩ => by
  subst e
  exact ts_bindE I q fun b' r v H' fp z I' e' rs => z _ _ _ I'
theorem ss_ret {s : Stmt} {te : SemE} (h : PS X s (L2.tRet (TEv XR W Γ te))) : PS X s (TSv XR W Γ (sRet te)) := PS_imp h fun D σ H ⟨F, b, e, I, q⟩ => by
  subst e
  exact ts_bindE I q fun b' r v H' fp z I' e' rs => z _ _ v H' fp (I'.demote r.t) rs.vr (rs.own I) rs.fr.1 (fun a ha => I.h0 (rs.fr.2 a ha)) fun j s h => ⟨fun a ha hf => (rs.src a hf).apart I h ha, fun a ha hf => let ⟨s0, e0, _⟩ := demote_some h; I.slotDom e0 hf (rs.fr.2 a ha)⟩
theorem ss_retV {s : Stmt} {i : Nat} (h : PS X s (L2.tRet (tVar i))) : PS X s (TSv XR W Γ (sRetV i)) := PS_imp h fun D σ H ⟨F, b, e, I, q⟩ => by
  subst e
  unfold sRetV at q
  cases hs : F.σd[i]? with
  | none => rw [hs] at q; exact q.elim
  | some o =>
    cases o with
    | none => rw [hs] at q; exact q.elim
    | some s =>
      rw [hs] at q
      obtain ⟨v, e1, e2⟩ := I.slot i s hs
      exact ⟨v, e1, q _ _ v H _ (I.wipe1 i) e2 (I.own i s hs) (I.fr i s hs).1 (fun a ha => ((I.fr i s hs).2 a ha).1) fun j s' h => let ⟨hj, h'⟩ := set_none h; ⟨fun a ha hf => ((I.fr j s' h').2 a ha).2 i s (Ne.symm hj) hs hf, fun a ha hf => ((I.fr i s hs).2 a ha).2 j s' hj h' hf⟩⟩
theorem ss_retN {s : Stmt} (h : PS X s L2.tRetN) : PS X s (TSv XR W Γ sRetN) := PS_imp h fun D σ H ⟨F, b, e, I, q⟩ =>
  q _ _ .non H [] I (.non) (fun _ z => nomatch z) List.nodup_nil (fun _ z => nomatch z) fun j s h => ⟨(fun _ _ z => nomatch z), (fun _ z => nomatch z)⟩
theorem ss_if {s : Stmt} {tc : SemT} {f g : SemS} (h : PS X s (tIfS (TTv XR W Γ tc) (TSv XR W Γ f) (TSv XR W Γ g))) : PS X s (TSv XR W Γ (sIf tc f g)) := PS_imp h fun D σ H ⟨F, b, e, I, q⟩ => by
  subst e
  refine ts_bindT I q fun b' c H' z I' e' => ?_
  cases c with
  | true => exact ⟨F, b', rfl, I', z⟩
  | false => exact ⟨F, b', rfl, I', z⟩
theorem ss_set {s : Stmt} {i : Nat} {te : SemE} (h : PS X s (tAsg (TEv XR W Γ te) (gName i))) : PS X s (TSv XR W Γ (sSet i te)) := PS_imp h fun D σ H ⟨F, b, e, I, q⟩ => by
  subst e
  exact ts_bindE I q fun b' r v H' fp z I' e' rs => z _ _ _ (I.setR I' rs)
end
end DD
set_option Elab.async false
set_option linter.all false
set_option maxRecDepth 100000
set_option maxHeartbeats 4000000
/-! DS9: two names at once; changes of one's own lists. -/
namespace DD
open PySem PySem.Spec PyProof.Rows L2
/-- a, b = x, y -/
def sPar2 (i j : Nat) (f g : SemE) : SemS := fun Γ σ => f Γ σ >>= fun r1 => g Γ σ >>= fun r2 =>
  .ret (.nx (((demote (r1.t ++ r2.t) σ).set i (some ⟨r1.v, r1.f⟩)).set j (some ⟨r2.v, r2.f⟩)))
section
variable {A : Addr → Prop} {H0 : Hp} {st : StT} {b : Nat} {σd : SD} {fps : Nat → List Addr} {σ : L2.St} {H : Hp}
theorem set_key {i : Nat} {o : Sl} {j : Nat} {s : Sl} (h : (σd.set i (some o))[j]? = some (some s)) : (j = i ∧ s = o) ∨ (j ≠ i ∧ σd[j]? = some (some s)) := by
  by_cases hj : j = i
  · subst hj
    rw [List.getElem?_set] at h
    simp only [if_true] at h
    split at h
    · cases h; exact .inl ⟨rfl, rfl⟩
    · cases h
  · rw [List.getElem?_set_ne (Ne.symm hj)] at h
    exact .inr ⟨hj, h⟩
/-- a cell that no slot reads is written -/
theorem InvD.poke (I : InvD A H0 st b σd fps σ H) {p : Addr} {o : HO} (h0 : H0 p = none) (hp : H p ≠ none) (ht : ∀ vs, H p ≠ some (.tup vs)) (hc : ∀ q, H p ≠ some (LamX.CodeO p q)) (hs : ¬ stC st p) (n : ∀ j s, σd[j]? = some (some s) → p ∉ fps j) : InvD A H0 st b σd fps σ (upd H p o) := by
  have k : ∀ {fp : List Addr}, p ∉ fp → ∀ a u, H a = some u → (a ∈ fp ∨ ∃ vs, u = .tup vs) → upd H p o a = some u := fun {fp} hn a u e z => by
    have : a ≠ p := fun c => by
      subst c
      rcases z with z | ⟨vs, rfl⟩
      · exact hn z
      · exact ht vs e
    rw [upd_ne this]; exact e
  refine ⟨I.len, ⟨fun a u e c nt => ?_, fun a e => ?_⟩, I.strm.keep fun a u c e => ?_, fun j s h => ?_, I.own, I.fr⟩
  · have : a ≠ p := fun z => by subst z; rw [h0] at e; cases e
    rw [upd_ne this]; exact I.ext.1 a u e c nt
  · by_cases z : a = p
    · subst z; exact h0
    · rw [upd_ne z] at e; exact I.ext.2 a e
  · have : a ≠ p := fun z => by
      subst z
      rcases c with c | ⟨q, rfl⟩
      · exact hs c
      · exact hc q e
    rw [upd_ne this]; exact e
  · obtain ⟨v, e1, e2⟩ := I.slot j s h
    refine ⟨v, e1, ?_⟩
    cases hx : s.v with
    | dat d => rw [hx] at e2; exact Rd.keep e2 (k (n j s h))
    | strm => rw [hx] at e2; exact e2
    | scr => rw [hx] at e2; exact e2
theorem set_self' {i : Nat} {v : V} (h : σ[i]? = some (some v)) : σ.set i (some v) = σ := by
  apply List.ext_getElem?
  intro j
  by_cases hj : j = i
  · subst hj
    rw [List.getElem?_set]
    obtain ⟨hl, he⟩ := List.getElem?_eq_some_iff.mp h
    simp [hl, he]
  · rw [List.getElem?_set_ne (Ne.symm hj)]
/-- what a result's cells are, when r.t has been handed on -/
theorem RsOk.noSlot {F : Fm} {b0 : Nat} {Hs H' : Hp} {r : R} {v : V} {fp : List Addr} (rs : F.Rs Hs r v H' fp) (I0 : F.Inv b0 Hs) {j : Nat} {s : Sl} (hj : j ∉ r.t) (hs : F.σd[j]? = some (some s)) {a : Addr} (ha : a ∈ exs s.m (F.fps j)) : a ∉ fp := rs.apart I0 j s hj hs a ha
end
section
variable {X : Cx} {XR : XRel} {W : WX} {Γ : FEnv}
theorem ss_par2 {s : Stmt} {i j : Nat} {f g : SemE} (hij : i ≠ j) (h : PS X s (tPar i j (tCons (TEv XR W Γ f) (tCons (TEv XR W Γ g) tNil)))) : PS X s (TSv XR W Γ (sPar2 i j f g)) := PS_imp h fun D σ H ⟨F, b, e, I, q⟩ => by
  subst e
  refine ts_bindE I q fun b1 r1 v1 H1 f1 q1 I1 e1 rs1 => ?_
  refine ts_bindE I1 q1 fun b2 r2 v2 H2 f2 q2 I2 e2 rs2 => ?_
  refine ⟨v1, v2, rfl, q2 (fun k => if k = j then f2 else if k = i then f1 else F.fps k) _ _ ?_⟩
  have rs1' := rs1.grow I I1.strm e2
  have hd : ∀ {k : Nat} {s : Sl}, (demote (r1.t ++ r2.t) F.σd)[k]? = some (some s) → ∃ s0, F.σd[k]? = some (some s0) := fun h => let ⟨s0, e, _⟩ := demote_some h; ⟨s0, e⟩
  have J := (I2.demote (r1.t ++ r2.t)).set (i := i) rs1'.vr (rs1'.own I) (fun k s hk h a ha z => ((rs1'.src a z).mono fun x hx => List.mem_append_left _ hx).apart I h ha) rs1'.fr.1
    fun a ha => ⟨I.h0 (rs1'.fr.2 a ha), fun k s hk h z => let ⟨s0, e0⟩ := hd h; I.slotDom e0 z (rs1'.fr.2 a ha)⟩
  refine J.set rs2.vr (rs2.own I1) (fun k s hk h a ha z => ?_) rs2.fr.1 fun a ha => ⟨I1.h0 (rs2.fr.2 a ha), fun k s hk h z => ?_⟩
  · rcases set_key h with ⟨rfl, rfl⟩ | ⟨hki, h⟩
    · rw [if_pos rfl] at ha
      exact rs1.apart1 I ha (rs2.src a z)
    · rw [if_neg hki] at ha
      exact ((rs2.src a z).mono fun x hx => List.mem_append_right _ hx).apart I1 h ha
  · rcases set_key h with ⟨rfl, rfl⟩ | ⟨hki, h⟩
    · rw [if_pos rfl] at z
      exact rs1.vr.dom a z (rs2.fr.2 a ha)
    · rw [if_neg hki] at z
      obtain ⟨s0, e0⟩ := hd h
      exact I1.slotDom e0 z (rs2.fr.2 a ha)
/-- the cell of one's own list -/
theorem own_list {F : Fm} {b : Nat} {H : Hp} {i : Nat} {xs : List PyData} {m : Fr} (I : F.Inv b H) (hs : F.σd[i]? = some (some ⟨.dat (.list xs), m⟩)) (hm : m ≠ .no) :
    ∃ p vs g, F.σ[i]? = some (some (.ref p)) ∧ H p = some (.lst vs) ∧ RdL H xs vs g ∧ F.fps i = p :: g ∧ F.H0 p = none ∧ ¬ stC F.st p ∧ p ∉ g ∧ (∀ j s, j ≠ i → F.σd[j]? = some (some s) → p ∉ F.fps j) ∧ (m = .all → g.Nodup ∧ ∀ a ∈ g, F.H0 a = none ∧ ∀ j s, j ≠ i → F.σd[j]? = some (some s) → a ∉ F.fps j) := by
  obtain ⟨v, e1, e2⟩ := I.slot i _ hs
  have e2 : Rd H (.list xs) v (F.fps i) := e2
  obtain ⟨fr1, fr2⟩ := I.fr i _ hs
  generalize hf : F.fps i = fp at e2 fr1 fr2
  cases e2 with
  | lst e t =>
    rename_i p vs g
    have hp : p ∈ exs m (p :: g) := by
      cases m with
      | no => exact absurd rfl hm
      | top => simp [exs]
      | all => simp [exs]
    have hpg : p ∉ g := by
      cases m with
      | no => exact absurd rfl hm
      | top =>
        obtain ⟨a, r, e, n⟩ := fr1
        cases e
        exact n
      | all => exact (List.nodup_cons.mp fr1).1
    refine ⟨p, vs, g, e1, e, t, rfl, (fr2 p hp).1, (I.own i _ hs p (by rw [hf]; exact List.mem_cons_self)).2, hpg, (fr2 p hp).2, fun ha => ?_⟩
    subst ha
    exact ⟨(List.nodup_cons.mp fr1).2, fun a z => fr2 a (List.mem_cons_of_mem _ z)⟩
/-- one's own list is written anew -/
theorem InvD.writeL {F : Fm} {b : Nat} {H : Hp} {i p : Nat} {xs ys : List PyData} {m m' : Fr} {vs ws : List V} {g g' : List Addr} (I : F.Inv b H) (hs : F.σd[i]? = some (some ⟨.dat (.list xs), m⟩))
    (e1 : F.σ[i]? = some (some (.ref p))) (e2 : H p = some (.lst vs)) (hf : F.fps i = p :: g) (h0 : F.H0 p = none) (hst : ¬ stC F.st p) (hp : ∀ j s, j ≠ i → F.σd[j]? = some (some s) → p ∉ F.fps j)
    {σd' : SD} (hl : σd'.length = F.σd.length) (hless : ∀ j s, j ≠ i → σd'[j]? = some (some s) → ∃ s0, F.σd[j]? = some (some s0) ∧ s.v = s0.v ∧ (s = s0 ∨ s.m = .no))
    (rd : RdL H ys ws g') (hpg : p ∉ g') (own : ∀ a ∈ g', Own F.A F.H0 F.st a) (ap : ∀ j s, j ≠ i → σd'[j]? = some (some s) → ∀ a ∈ exs s.m (F.fps j), a ∉ g')
    (fr : m' ≠ .all ∨ (g'.Nodup ∧ ∀ a ∈ g', F.H0 a = none ∧ ∀ j s, j ≠ i → σd'[j]? = some (some s) → a ∉ F.fps j)) :
    InvD F.A F.H0 F.st b (σd'.set i (some ⟨.dat (.list ys), m'⟩)) (fun j => if j = i then p :: g' else F.fps j) F.σ (upd H p (.lst ws)) := by
  have hI : InvD F.A F.H0 F.st b (σd'.set i none) F.fps F.σ H := by
    refine ⟨by rw [List.length_set, hl]; exact I.len, I.ext, I.strm, fun j s h => ?_, fun j s h => ?_, fun j s h => ?_⟩
    · obtain ⟨hj, h⟩ := set_none h
      obtain ⟨s0, e, ev, _⟩ := hless j s hj h
      rw [ev]; exact I.slot j s0 e
    · obtain ⟨hj, h⟩ := set_none h
      obtain ⟨s0, e, ev, _⟩ := hless j s hj h
      exact I.own j s0 e
    · obtain ⟨hj, h⟩ := set_none h
      obtain ⟨s0, e, ev, q⟩ := hless j s hj h
      rcases q with rfl | hm
      · refine ⟨(I.fr j s e).1, fun a ha => ⟨((I.fr j s e).2 a ha).1, fun k s' hk h' => ?_⟩⟩
        obtain ⟨hk2, h'⟩ := set_none h'
        obtain ⟨s1, e1', _⟩ := hless k s' hk2 h'
        exact ((I.fr j s e).2 a ha).2 k s1 hk e1'
      · rw [hm]; exact ⟨trivial, fun a z => nomatch z⟩
  have hI2 := hI.poke (o := .lst ws) h0 (by rw [e2]; simp) (by rw [e2]; simp) (by rw [e2]; simp [LamX.CodeO]) hst fun j s h => by
    obtain ⟨hj, h⟩ := set_none h
    obtain ⟨s0, e, _⟩ := hless j s hj h
    exact hp j s0 hj e
  have rd2 : Rd (upd H p (.lst ws)) (.list ys) (.ref p) (p :: g') := .lst upd_same (rd.keep fun a o e z => by
    have : a ≠ p := fun c => by
      subst c
      rcases z with z | ⟨us, rfl⟩
      · exact hpg z
      · rw [e2] at e; cases e
    rw [upd_ne this]; exact e)
  have hpj : ∀ j s, j ≠ i → σd'[j]? = some (some s) → p ∉ F.fps j := fun j s hj h => let ⟨s0, e, _⟩ := hless j s hj h; hp j s0 hj e
  have K := hI2.set (i := i) (x := .dat (.list ys)) (m := m') (v := .ref p) (fp := p :: g') rd2 (fun a ha => ?_) (fun j s hj h a ha z => ?_) ?_ fun a ha => ?_
  · rw [set_self' e1] at K
    have : (σd'.set i none).set i (some ⟨.dat (.list ys), m'⟩) = σd'.set i (some ⟨.dat (.list ys), m'⟩) := by rw [List.set_set]
    rw [this] at K
    exact K
  · rcases List.mem_cons.mp ha with rfl | ha
    · exact ⟨.inr h0, hst⟩
    · exact own a ha
  · obtain ⟨_, h⟩ := set_none h
    rcases List.mem_cons.mp z with rfl | z
    · exact hpj j s hj h (exs_sub ha)
    · exact ap j s hj h a ha z
  · cases m' with
    | no => trivial
    | top => exact ⟨p, g', rfl, hpg⟩
    | all => rcases fr with c | ⟨n, _⟩
             · exact absurd rfl c
             · exact List.nodup_cons.mpr ⟨hpg, n⟩
  · have hpp : F.H0 p = none ∧ ∀ j s, j ≠ i → (σd'.set i none)[j]? = some (some s) → p ∉ F.fps j := ⟨h0, fun j s hj h => hpj j s hj (set_none h).2⟩
    cases m' with
    | no => cases ha
    | top =>
      have : a = p := by simpa [exs] using ha
      subst this
      exact hpp
    | all =>
      rcases List.mem_cons.mp ha with rfl | ha
      · exact hpp
      · rcases fr with c | ⟨_, n⟩
        · exact absurd rfl c
        · exact ⟨(n a ha).1, fun j s hj h => (n a ha).2 j s hj (set_none h).2⟩
end
end DD
set_option Elab.async false
set_option linter.all false
set_option maxRecDepth 100000
set_option maxHeartbeats 4000000
/-! DS10: append, extend, pop. -/
namespace DD
open PySem PySem.Spec PyProof.Rows L2
/-- x.append(y.pop(e)) -/
def popF (m : Fr) (d : PyData) : Fr := if m = .all ∨ pur d = true then .all else .no
def appPopK (i j : Nat) (σ : SD) (r : R) : M Out := match σ[i]?, σ[j]?, r.v with
  | some (some ⟨.dat (.list xs), mi⟩), some (some ⟨.dat (.list ys), mj⟩), .dat (.int k) =>
    if mi = .no ∨ mj = .no ∨ i = j ∨ 16777216 ≤ xs.length ∨ small62 k = false then .fail else
    (match ixD ys.length k with
    | none => .fail
    | some n => (match ys[n]? with
      | none => .fail
      | some d => .ret (.nx ((σ.set j (some ⟨.dat (.list (ys.eraseIdx n)), mj⟩)).set i (some ⟨.dat (.list (xs ++ [d])), newM mi (popF mj d)⟩)))))
  | _, _, _ => .fail
def sAppPop (i j : Nat) (e : SemE) : SemS := fun Γ σ => if ownL σ i && ownL σ j then e Γ σ >>= appPopK i j σ else .fail
/-- z = y.pop(e) -/
def popK (z j : Nat) (σ : SD) (r : R) : M Out := match σ[j]?, r.v with
  | some (some ⟨.dat (.list ys), mj⟩), .dat (.int k) =>
    if mj = .no ∨ z = j ∨ small62 k = false then .fail else
    (match ixD ys.length k with
    | none => .fail
    | some n => (match ys[n]? with
      | none => .fail
      | some d => .ret (.nx ((σ.set j (some ⟨.dat (.list (ys.eraseIdx n)), mj⟩)).set z (some ⟨.dat d, popF mj d⟩)))))
  | _, _ => .fail
def sPop (z j : Nat) (e : SemE) : SemS := fun Γ σ => if ownL σ j then e Γ σ >>= popK z j σ else .fail
theorem seq_ixD {n k : Nat} {i : Int} (h : ixD n i = some k) : seqIndex? i n = some k ∧ k < n := by
  unfold ixD at h
  unfold seqIndex?
  split at h
  · rename_i h0
    split at h
    · rename_i h1
      cases h
      have : ¬ i < 0 := by omega
      rw [if_neg this]
      refine ⟨?_, by omega⟩
      rw [if_pos]
      simp only [Bool.and_eq_true, decide_eq_true_eq]
      omega
    · cases h
  · rename_i h0
    split at h
    · rename_i h1
      cases h
      have : i < 0 := by omega
      rw [if_pos this]
      refine ⟨?_, by omega⟩
      rw [if_pos]
      simp only [Bool.and_eq_true, decide_eq_true_eq]
      omega
    · cases h
section
variable {F : Fm} {b : Nat} {H : Hp}
/-- what a pop leaves -/
theorem pop_inv {j n : Nat} {ys : List PyData} {m : Fr} {d : PyData} (I : F.Inv b H) (hs : F.σd[j]? = some (some ⟨.dat (.list ys), m⟩)) (hm : m ≠ .no) (hn : ys[n]? = some d) :
    ∃ p vs v f g, F.σ[j]? = some (some (.ref p)) ∧ H p = some (.lst vs) ∧ vs.length = ys.length ∧ vs[n]? = some v ∧
      InvD F.A F.H0 F.st b (F.σd.set j (some ⟨.dat (.list (ys.eraseIdx n)), m⟩)) (fun k => if k = j then p :: g else F.fps k) F.σ (upd H p (.lst (vs.eraseIdx n))) ∧
      Rd (upd H p (.lst (vs.eraseIdx n))) d v f ∧ (∀ a ∈ f, Own F.A F.H0 F.st a) ∧ (∀ k s, k ≠ j → F.σd[k]? = some (some s) → ∀ a ∈ exs s.m (F.fps k), a ∉ f) ∧ (∀ a ∈ exs m (p :: g), a ∉ f) ∧
      (m = .all → f.Nodup ∧ ∀ a ∈ f, F.H0 a = none ∧ a ∉ p :: g ∧ ∀ k s, k ≠ j → F.σd[k]? = some (some s) → a ∉ F.fps k) := by
  obtain ⟨p, vs, g, e1, e2, rd, ef, h0, hst, hpg, hp, ha⟩ := own_list I hs hm
  have hlen := rd.length
  have hys : ys = ys.take n ++ d :: ys.drop (n + 1) := by
    obtain ⟨hl, he⟩ := List.getElem?_eq_some_iff.mp hn
    rw [← he, List.getElem_cons_drop, List.take_append_drop]
  have rd' := rd
  rw [hys] at rd'
  obtain ⟨v1, v2, g1, g2, ev, eg, r1, r2⟩ := RdL.split rd'
  cases r2 with
  | cons rx rt =>
    rename_i v vt f g3
    have l1 : v1.length = n := by
      rw [← r1.length, List.length_take]
      have := (List.getElem?_eq_some_iff.mp hn).1
      omega
    have hvn : vs[n]? = some v := by rw [ev, List.getElem?_append_right (by omega), l1]; simp
    have hve : vs.eraseIdx n = v1 ++ vt := by
      rw [ev, List.eraseIdx_append_of_length_le (by omega), l1]; simp
    have hye : ys.eraseIdx n = ys.take n ++ ys.drop (n + 1) := List.eraseIdx_eq_take_drop_succ ..
    have sub : ∀ a ∈ g1 ++ g3, a ∈ g := fun a z => by
      rw [eg]; simp only [List.mem_append] at z ⊢
      exact z.elim .inl fun z => .inr (.inr z)
    have subf : ∀ a ∈ f, a ∈ g := fun a z => by
      rw [eg]; simp only [List.mem_append]; exact .inr (.inl z)
    have own := I.own j _ hs
    have fr := (I.fr j _ hs)
    have kH : ∀ {fp : List Addr}, p ∉ fp → ∀ a u, H a = some u → (a ∈ fp ∨ ∃ vs, u = .tup vs) → upd H p (.lst (vs.eraseIdx n)) a = some u := fun {fp} hn a u e z => by
      have : a ≠ p := fun c => by
        subst c
        rcases z with z | ⟨ws, rfl⟩
        · exact hn z
        · rw [e2] at e; cases e
      rw [upd_ne this]; exact e
    refine ⟨p, vs, v, f, g1 ++ g3, e1, e2, hlen.symm, hvn, ?_, rx.keep (kH fun z => hpg (subf p z)), fun a z => own a (by rw [ef]; exact List.mem_cons_of_mem _ (subf a z)), fun k s hk h a z w => ?_, fun a z w => ?_, fun hma => ?_⟩
    · rw [hye, hve]
      refine InvD.writeL I hs e1 e2 ef h0 hst hp rfl (fun k s hk h => ⟨s, h, rfl, .inl rfl⟩) (r1.append rt) (fun z => hpg (sub p z)) (fun a z => own a (by rw [ef]; exact List.mem_cons_of_mem _ (sub a z))) (fun k s hk h a z w => ?_) ?_
      · exact ((I.fr k s h).2 a z).2 j _ (Ne.symm hk) hs (by rw [ef]; exact List.mem_cons_of_mem _ (sub a w))
      · by_cases hma : m = .all
        · obtain ⟨nd, hh⟩ := ha hma
          refine .inr ⟨?_, fun a z => hh a (sub a z)⟩
          rw [eg] at nd
          obtain ⟨n1, n2, n3⟩ := List.nodup_append.mp nd
          exact List.nodup_append.mpr ⟨n1, (List.nodup_append.mp n2).2.1, fun a ha b hb => n3 a ha b (List.mem_append_right _ hb)⟩
        · exact .inl hma
    · exact ((I.fr k s h).2 a z).2 j _ (Ne.symm hk) hs (by rw [ef]; exact List.mem_cons_of_mem _ (subf a w))
    · have hpf : p ∉ f := fun z => hpg (subf p z)
      cases m with
      | no => exact absurd rfl hm
      | top =>
        have : a = p := by simpa [exs] using z
        exact hpf (this ▸ w)
      | all =>
        rcases List.mem_cons.mp z with rfl | z
        · exact hpf w
        · obtain ⟨nd, _⟩ := ha rfl
          rw [eg] at nd
          obtain ⟨n1, n2, n3⟩ := List.nodup_append.mp nd
          rcases List.mem_append.mp z with z | z
          · exact n3 a z a (List.mem_append_left _ w) rfl
          · exact (List.nodup_append.mp n2).2.2 a w a z rfl
    · obtain ⟨nd, hh⟩ := ha hma
      have nd' := nd
      rw [eg] at nd'
      obtain ⟨n1, n2, n3⟩ := List.nodup_append.mp nd'
      refine ⟨(List.nodup_append.mp n2).1, fun a w => ⟨(hh a (subf a w)).1, fun z => ?_, (hh a (subf a w)).2⟩⟩
      rcases List.mem_cons.mp z with rfl | z
      · exact hpg (subf a w)
      · rcases List.mem_append.mp z with z | z
        · exact n3 a z a (List.mem_append_left _ w) rfl
        · exact (List.nodup_append.mp n2).2.2 a w a z rfl
end
section
variable {X : Cx} {XR : XRel} {W : WX} {Γ : FEnv}
theorem ty_list {K : PySem.W.Frag} {H : Hp} {p : Addr} {vs : List V} (h : H p = some (.lst vs)) : tyV K "list" (.ref p) H := .inl ⟨rfl, vs, SqL.of h⟩
theorem small62_iff {i : Int} : ¬ small62 i = false ↔ -4611686018427387904 ≤ i ∧ i < 4611686018427387904 := by
  unfold small62
  simp
theorem ownL_get {σ : SD} {i : Nat} (h : ownL σ i = true) : ∃ xs m, σ[i]? = some (some ⟨.dat (.list xs), m⟩) ∧ m ≠ .no := by
  unfold ownL at h
  split at h
  · rename_i xs m e
    exact ⟨xs, m, e, by simpa using h⟩
  · cases h
theorem ss_pop {s : Stmt} {z j : Nat} {te : SemE} (h : PS X s (tAsg (tBM X.K "list" rPopAt (tVar j) (tCons (TEv XR W Γ te) tNil)) (gName z))) : PS X s (TSv XR W Γ (sPop z j te)) := PS_imp h fun D σ H ⟨F, b, e, I, q⟩ => by
  subst e
  unfold sPop at q
  cases ho : ownL F.σd j with
  | false => rw [ho] at q; exact (show False from q).elim
  | true =>
    rw [ho, if_pos rfl] at q
    obtain ⟨ys, m, hs, hm⟩ := ownL_get ho
    obtain ⟨p, vs, g, e1, e2, rd, ef, _⟩ := own_list I hs hm
    refine ⟨_, e1, ty_list e2, ?_⟩
    refine ts_bindE I q fun b1 r v H1 f1 q1 I1 x1 rs1 => ?_
    unfold popK at q1
    rw [hs] at q1
    cases hv : r.v with
    | dat d =>
      rw [hv] at q1
      cases d with
      | int k =>
        have q1 : wpB b1 (if m = .no ∨ z = j ∨ small62 k = false then M.fail else
          (match ixD ys.length k with
          | none => .fail
          | some n => (match ys[n]? with
            | none => .fail
            | some d => .ret (.nx ((F.σd.set j (some ⟨.dat (.list (ys.eraseIdx n)), m⟩)).set z (some ⟨.dat d, popF m d⟩)))))) (F.OQ D) (F.ES XR W) := q1
        split at q1
        · exact q1.elim
        · rename_i hc
          simp only [not_or] at hc
          obtain ⟨hmn, hz, h62⟩ := hc
          cases hk : ixD ys.length k with
          | none => rw [hk] at q1; exact (show False from q1).elim
          | some n =>
            rw [hk] at q1
            dsimp only at q1
            cases hd : ys[n]? with
            | none => rw [hd] at q1; exact (show False from q1).elim
            | some d =>
              rw [hd] at q1
              obtain ⟨p', vs', v', f, g', e1', e2', hl', hv', I2, rd2, own2, ap2, ap3, fr2⟩ := pop_inv I1 hs hm hd
              rw [e1] at e1'
              cases e1'
              have hvi : v = .int k := (rs1.vr.nil hv).int_inv
              subst hvi
              obtain ⟨sk, _⟩ := seq_ixD hk
              rw [← hl'] at sk
              obtain ⟨s1, s2⟩ := small62_iff.mp h62
              refine ⟨p, vs', k, n, v', rfl, rfl, e2', by omega, by omega, sk, hv', ?_⟩
              refine q1 (fun k => if k = z then f else if k = j then p :: g' else F.fps k) _ _ ?_
              refine I2.set (x := .dat d) rd2 own2 (fun k s hk h a ha => ?_) ?_ fun a ha => ?_
              · rcases set_key h with ⟨rfl, rfl⟩ | ⟨hkj, h⟩
                · rw [if_pos rfl] at ha; exact ap3 a ha
                · rw [if_neg hkj] at ha; exact ap2 k s hkj h a ha
              · unfold popF
                split
                · rename_i hc
                  rcases hc with hc | hc
                  · exact (fr2 hc).1
                  · rw [Rd.pure rd2 hc]; exact List.nodup_nil
                · trivial
              · unfold popF at ha
                split at ha
                · rename_i hc
                  rcases hc with hc | hc
                  · obtain ⟨_, hh⟩ := fr2 hc
                    refine ⟨(hh a ha).1, fun k s hk h => ?_⟩
                    rcases set_key h with ⟨rfl, rfl⟩ | ⟨hkj, h⟩
                    · rw [if_pos rfl]; exact (hh a ha).2.1
                    · rw [if_neg hkj]; exact (hh a ha).2.2 k s hkj h
                  · have := Rd.pure rd2 hc
                    subst this
                    cases ha
                · cases ha
      | _ => exact (show False from q1).elim
    | strm => rw [hv] at q1; exact (show False from q1).elim
    | scr => rw [hv] at q1; exact (show False from q1).elim
theorem newM_ne {m f : Fr} : newM m f ≠ .all ∨ (m = .all ∧ f = .all) := by
  unfold newM
  split
  · rename_i h; exact .inr h
  · exact .inl (by simp)
/-- an item is put behind one's own list -/
theorem InvD.push {F : Fm} {b b0 : Nat} {H Hs : Hp} {i : Nat} {xs : List PyData} {m mf : Fr} {ds : List PyData} {ws : List V} {f : List Addr} {σd' : SD} (I : F.Inv b H) (hs : F.σd[i]? = some (some ⟨.dat (.list xs), m⟩)) (hm : m ≠ .no)
    (hl : σd'.length = F.σd.length) (hless : ∀ j s, j ≠ i → σd'[j]? = some (some s) → ∃ s0, F.σd[j]? = some (some s0) ∧ s.v = s0.v ∧ (s = s0 ∨ s.m = .no))
    (rd : RdL H ds ws f) (own : ∀ a ∈ f, Own F.A F.H0 F.st a) (api : ∀ a ∈ exs m (F.fps i), a ∉ f) (ap : ∀ j s, j ≠ i → σd'[j]? = some (some s) → ∀ a ∈ exs s.m (F.fps j), a ∉ f)
    (fr : mf = .all → f.Nodup ∧ ∀ a ∈ f, F.H0 a = none ∧ ∀ j s, j ≠ i → σd'[j]? = some (some s) → a ∉ F.fps j) :
    ∃ p vs g, F.σ[i]? = some (some (.ref p)) ∧ H p = some (.lst vs) ∧ vs.length = xs.length ∧ F.fps i = p :: g ∧
      InvD F.A F.H0 F.st b (σd'.set i (some ⟨.dat (.list (xs ++ ds)), newM m mf⟩)) (fun j => if j = i then p :: (g ++ f) else F.fps j) F.σ (upd H p (.lst (vs ++ ws))) := by
  obtain ⟨p, vs, g, e1, e2, rdl, ef, h0, hst, hpg, hp, ha⟩ := own_list I hs hm
  have hpx : p ∈ exs m (F.fps i) := by
    rw [ef]
    cases m with
    | no => exact absurd rfl hm
    | top => simp [exs]
    | all => simp [exs]
  refine ⟨p, vs, g, e1, e2, rdl.length.symm, ef, ?_⟩
  refine InvD.writeL I hs e1 e2 ef h0 hst hp hl hless (rdl.append rd) (fun z => ?_) (fun a z => ?_) (fun j s hj h a z w => ?_) ?_
  · rcases List.mem_append.mp z with z | z
    · exact hpg z
    · exact api p hpx z
  · rcases List.mem_append.mp z with z | z
    · exact I.own i _ hs a (by rw [ef]; exact List.mem_cons_of_mem _ z)
    · exact own a z
  · rcases List.mem_append.mp w with w | w
    · obtain ⟨s0, e0, ev, q⟩ := hless j s hj h
      rcases q with rfl | q
      · exact ((I.fr j s e0).2 a z).2 i _ (Ne.symm hj) hs (by rw [ef]; exact List.mem_cons_of_mem _ w)
      · rw [q] at z; cases z
    · exact ap j s hj h a z w
  · rcases newM_ne (m := m) (f := mf) with c | ⟨rfl, rfl⟩
    · exact .inl c
    · obtain ⟨n1, h1⟩ := ha rfl
      obtain ⟨n2, h2⟩ := fr rfl
      refine .inr ⟨List.nodup_append.mpr ⟨n1, n2, fun a x b y e => ?_⟩, fun a z => ?_⟩
      · subst e
        exact api a (by rw [ef]; exact List.mem_cons_of_mem _ x) y
      · rcases List.mem_append.mp z with z | z
        · exact ⟨(h1 a z).1, fun j s hj h => let ⟨s0, e0, _⟩ := hless j s hj h; (h1 a z).2 j s0 hj e0⟩
        · exact h2 a z
theorem ss_app {s : Stmt} {i : Nat} {te : SemE} (h : PS X s (tDrop (tBM X.K "list" rAppend (tVar i) (tCons (TEv XR W Γ te) tNil)))) : PS X s (TSv XR W Γ (sApp i te)) := PS_imp h fun D σ H ⟨F, b, e, I, q⟩ => by
  subst e
  unfold sApp at q
  cases ho : ownL F.σd i with
  | false => rw [ho] at q; exact (show False from q).elim
  | true =>
    rw [ho, if_pos rfl] at q
    obtain ⟨ys, m, hs, hm⟩ := ownL_get ho
    obtain ⟨p, vs, g, e1, e2, rd, ef, _⟩ := own_list I hs hm
    refine ⟨_, e1, ty_list e2, ?_⟩
    refine ts_bindE I q fun b1 r v H1 f1 q1 I1 x1 rs1 => ?_
    unfold appK at q1
    rw [hs] at q1
    cases hv : r.v with
    | dat d =>
      rw [hv] at q1
      have q1 : wpB b1 (if m = .no ∨ i ∈ r.t ∨ 16777216 ≤ ys.length then M.fail else
          .ret (.nx ((demote r.t F.σd).set i (some ⟨.dat (.list (ys ++ [d])), newM m r.f⟩)))) (F.OQ D) (F.ES XR W) := q1
      split at q1
      · exact q1.elim
      · rename_i hc
        simp only [not_or] at hc
        obtain ⟨_, hir, hsz⟩ := hc
        have rdv := rs1.vr.nil hv
        obtain ⟨p', vs', g', e1', e2', hl', ef', J⟩ := InvD.push (mf := r.f) (b0 := b) (Hs := H) I1 hs hm (demote_len r.t F.σd) (fun j s hj h => let ⟨s0, e0, ev, w⟩ := demote_some h; ⟨s0, e0, ev, w.elim (fun w => .inr w.2) fun w => .inl w.2⟩)
          (RdL.one rdv) (rs1.own I) (fun a z => rs1.apart I i _ hir hs a z) (fun j s hj h a z w => (rs1.src a w).apart I h z) fun hf => by
            have fr := rs1.fr
            rw [hf] at fr
            exact ⟨fr.1, fun a z => ⟨I.h0 (fr.2 a z), fun j s hj h w => let ⟨s0, e0, _⟩ := demote_some h; I.slotDom e0 w (fr.2 a z)⟩⟩
        rw [e1] at e1'
        cases e1'
        refine ⟨p, vs', v, rfl, rfl, e2', ?_, q1 _ _ _ J⟩
        rw [hl', sizeLine_eq]
        omega
    | strm => rw [hv] at q1; exact (show False from q1).elim
    | scr => rw [hv] at q1; exact (show False from q1).elim
theorem ss_ext {s : Stmt} {i : Nat} {te : SemE} (h : PS X s (tDrop (tBM X.K "list" rExtend (tVar i) (tCons (TEv XR W Γ te) tNil)))) : PS X s (TSv XR W Γ (sExt i te)) := PS_imp h fun D σ H ⟨F, b, e, I, q⟩ => by
  subst e
  unfold sExt at q
  cases ho : ownL F.σd i with
  | false => rw [ho] at q; exact (show False from q).elim
  | true =>
    rw [ho, if_pos rfl] at q
    obtain ⟨ys, m, hs, hm⟩ := ownL_get ho
    obtain ⟨p, vs, g, e1, e2, rd, ef, _⟩ := own_list I hs hm
    refine ⟨_, e1, ty_list e2, ?_⟩
    refine ts_bindE I q fun b1 r v H1 f1 q1 I1 x1 rs1 => ?_
    unfold extK at q1
    rw [hs] at q1
    cases hv : r.v with
    | dat d =>
      rw [hv] at q1
      cases d with
      | list zs =>
        have q1 : wpB b1 (if m = .no ∨ i ∈ r.t ∨ 16777216 < ys.length + zs.length then M.fail else
            .ret (.nx ((demote r.t F.σd).set i (some ⟨.dat (.list (ys ++ zs)), newM m (if itP (.list zs) then .all else r.f)⟩)))) (F.OQ D) (F.ES XR W) := q1
        split at q1
        · exact q1.elim
        · rename_i hc
          simp only [not_or] at hc
          obtain ⟨_, hir, hsz⟩ := hc
          have rdv := rs1.vr.nil hv
          have src := rs1.src
          have own := rs1.own I
          have apt := rs1.apart I
          have fr := rs1.fr
          cases rdv with
          | lst eb rdb =>
            rename_i pb zvs gb
            obtain ⟨p', vs', g', e1', e2', hl', ef', J⟩ := InvD.push (mf := if itP (.list zs) then .all else r.f) (b0 := b) (Hs := H) I1 hs hm (demote_len r.t F.σd) (fun j s hj h => let ⟨s0, e0, ev, w⟩ := demote_some h; ⟨s0, e0, ev, w.elim (fun w => .inr w.2) fun w => .inl w.2⟩)
              rdb (fun a z => own a (List.mem_cons_of_mem _ z)) (fun a z w => apt i _ hir hs a z (List.mem_cons_of_mem _ w)) (fun j s hj h a z w => (src a (List.mem_cons_of_mem _ w)).apart I h z) fun hf => by
                by_cases hp : itP (.list zs) = true
                · have := RdL.pure rdb hp
                  subst this
                  exact ⟨List.nodup_nil, fun a z => nomatch z⟩
                · rw [if_neg hp] at hf
                  rw [hf] at fr
                  exact ⟨(List.nodup_cons.mp fr.1).2, fun a z => ⟨I.h0 (fr.2 a (List.mem_cons_of_mem _ z)), fun j s hj h w => let ⟨s0, e0, _⟩ := demote_some h; I.slotDom e0 w (fr.2 a (List.mem_cons_of_mem _ z))⟩⟩
            rw [e1] at e1'
            cases e1'
            refine ⟨p, pb, vs', zvs, rfl, rfl, e2', eb, ?_, q1 _ _ _ J⟩
            rw [hl', ← rdb.length, sizeLine_eq]
            omega
      | _ => exact (show False from q1).elim
    | strm => rw [hv] at q1; exact (show False from q1).elim
    | scr => rw [hv] at q1; exact (show False from q1).elim
theorem ss_appPop {s : Stmt} {i j : Nat} {te : SemE} (h : PS X s (tDrop (tBM X.K "list" rAppend (tVar i) (tCons (tBM X.K "list" rPopAt (tVar j) (tCons (TEv XR W Γ te) tNil)) tNil)))) : PS X s (TSv XR W Γ (sAppPop i j te)) := PS_imp h fun D σ H ⟨F, b, e, I, q⟩ => by
  subst e
  unfold sAppPop at q
  cases ho : ownL F.σd i && ownL F.σd j with
  | false => rw [ho] at q; exact (show False from q).elim
  | true =>
    rw [ho, if_pos rfl] at q
    simp only [Bool.and_eq_true] at ho
    obtain ⟨xs, mi, hsi, hmi⟩ := ownL_get ho.1
    obtain ⟨ys, m, hs, hm⟩ := ownL_get ho.2
    obtain ⟨pi, vsi, gi, ei1, ei2, rdi, efi, _⟩ := own_list I hsi hmi
    obtain ⟨p, vs, g, e1, e2, rd, ef, _⟩ := own_list I hs hm
    refine ⟨_, ei1, ty_list ei2, ?_⟩
    refine ⟨_, e1, ty_list e2, ?_⟩
    refine ts_bindE I q fun b1 r v H1 f1 q1 I1 x1 rs1 => ?_
    unfold appPopK at q1
    rw [hs, hsi] at q1
    cases hv : r.v with
    | dat d =>
      rw [hv] at q1
      cases d with
      | int k =>
        have q1 : wpB b1 (if mi = .no ∨ m = .no ∨ i = j ∨ 16777216 ≤ xs.length ∨ small62 k = false then M.fail else
          (match ixD ys.length k with
          | none => .fail
          | some n => (match ys[n]? with
            | none => .fail
            | some d => .ret (.nx ((F.σd.set j (some ⟨.dat (.list (ys.eraseIdx n)), m⟩)).set i (some ⟨.dat (.list (xs ++ [d])), newM mi (popF m d)⟩)))))) (F.OQ D) (F.ES XR W) := q1
        split at q1
        · exact q1.elim
        · rename_i hc
          simp only [not_or] at hc
          obtain ⟨_, hmn, hij, hsz, h62⟩ := hc
          cases hk : ixD ys.length k with
          | none => rw [hk] at q1; exact (show False from q1).elim
          | some n =>
            rw [hk] at q1
            dsimp only at q1
            cases hd : ys[n]? with
            | none => rw [hd] at q1; exact (show False from q1).elim
            | some d =>
              rw [hd] at q1
              obtain ⟨p', vs', v', f, g', e1', e2', hl', hv', I2, rd2, own2, ap2, ap3, fr2⟩ := pop_inv I1 hs hm hd
              rw [e1] at e1'
              cases e1'
              have hvi : v = .int k := (rs1.vr.nil hv).int_inv
              subst hvi
              obtain ⟨sk, _⟩ := seq_ixD hk
              rw [← hl'] at sk
              obtain ⟨s1, s2⟩ := small62_iff.mp h62
              refine ⟨p, vs', k, n, v', rfl, rfl, e2', by omega, by omega, sk, hv', ?_⟩
              let F2 : Fm := F.at_ (F.σd.set j (some ⟨.dat (.list (ys.eraseIdx n)), m⟩)) (fun k => if k = j then p :: g' else F.fps k) F.σ
              have I2' : F2.Inv b1 _ := I2
              have hsi2 : F2.σd[i]? = some (some ⟨.dat (.list xs), mi⟩) := by
                show (F.σd.set j _)[i]? = _
                rw [List.getElem?_set_ne (Ne.symm hij)]; exact hsi
              obtain ⟨p3, vs3, g3, e13, e23, hl3, ef3, J⟩ := InvD.push (F := F2) (mf := popF m d) (b0 := b1) (Hs := H1) (σd' := F2.σd) I2' hsi2 hmi rfl (fun j s hj h => ⟨s, h, rfl, .inl rfl⟩)
                (RdL.one rd2) own2 (fun a z => by
                  have z : a ∈ exs mi (F2.fps i) := z
                  have : F2.fps i = F.fps i := if_neg hij
                  rw [this] at z
                  exact ap2 i _ hij hsi a z) (fun k s hk h a z w => by
                  rcases set_key h with ⟨rfl, rfl⟩ | ⟨hkj, h⟩
                  · have : F2.fps k = p :: g' := if_pos rfl
                    rw [this] at z; exact ap3 a z w
                  · have : F2.fps k = F.fps k := if_neg hkj
                    rw [this] at z; exact ap2 k s hkj h a z w) fun hf => by
                    unfold popF at hf
                    split at hf
                    · rename_i hc
                      rcases hc with hc | hc
                      · obtain ⟨nd, hh⟩ := fr2 hc
                        refine ⟨nd, fun a ha => ⟨(hh a ha).1, fun k s hk h => ?_⟩⟩
                        rcases set_key h with ⟨rfl, rfl⟩ | ⟨hkj, h⟩
                        · have : F2.fps k = p :: g' := if_pos rfl
                          rw [this]; exact (hh a ha).2.1
                        · have : F2.fps k = F.fps k := if_neg hkj
                          rw [this]; exact (hh a ha).2.2 k s hkj h
                      · have := Rd.pure rd2 hc
                        subst this
                        exact ⟨List.nodup_nil, fun a z => nomatch z⟩
                    · cases hf
              have e13 : F.σ[i]? = some (some (.ref p3)) := e13
              rw [ei1] at e13
              cases e13
              refine ⟨pi, vs3, v', rfl, rfl, e23, ?_, q1 _ _ _ J⟩
              rw [hl3, sizeLine_eq]
              omega
      | _ => exact (show False from q1).elim
    | strm => rw [hv] at q1; exact (show False from q1).elim
    | scr => rw [hv] at q1; exact (show False from q1).elim
end
end DD
set_option Elab.async false
set_option linter.all false
set_option maxRecDepth 100000
set_option maxHeartbeats 4000000
/-! DS11: targets, what is walked, loops. -/
namespace DD
open PySem PySem.Spec PyProof.Rows L2 RZ
/-! ### targets -/
/-- cells that no slot holds alone -/
def Apart (σd : SD) (fps : Nat → List Addr) (f : List Addr) : Prop := ∀ j s, σd[j]? = some (some s) → ∀ a ∈ exs s.m (fps j), a ∉ f
/-- what a target may have changed: the slots sl, whose cells are now among f -/
structure TgR (sl : List Nat) (F : Fm) (f : List Addr) (σd' : SD) (fps' : Nat → List Addr) (σ' : L2.St) : Prop where
  off : ∀ j, j ∉ sl → σd'[j]? = F.σd[j]? ∧ fps' j = F.fps j ∧ σ'[j]? = F.σ[j]?
  on : ∀ j ∈ sl, ∀ a ∈ fps' j, a ∈ f
  len : σ'.length = F.σ.length
def TGv (sl : List Nat) (g : SemG) : TG := fun v σ H Q => ∃ (F : Fm) (b : Nat) (d : PyData) (f : List Addr) (E : Nat → XV → Prop), F.σ = σ ∧ F.Inv b H ∧ Rd H d v f ∧ (∀ a ∈ f, Own F.A F.H0 F.st a) ∧ Apart F.σd F.fps f ∧
  wpB b (g d F.σd) (fun b' σd' => ∀ fps' σ', InvD F.A F.H0 F.st b' σd' fps' σ' H → (∀ f', Apart F.σd F.fps f' → Apart σd' fps' f') → TgR sl F f σd' fps' σ' → Q σ' H) E
def TGsv (sl : List Nat) (gs : List SemG) : TGs := fun vs σ H Q => ∃ (F : Fm) (b : Nat) (ds : List PyData) (f : List Addr) (E : Nat → XV → Prop), F.σ = σ ∧ F.Inv b H ∧ RdL H ds vs f ∧ (∀ a ∈ f, Own F.A F.H0 F.st a) ∧ Apart F.σd F.fps f ∧ ds.length = gs.length ∧
  wpB b (goG gs ds F.σd) (fun b' σd' => ∀ fps' σ', InvD F.A F.H0 F.st b' σd' fps' σ' H → (∀ f', Apart F.σd F.fps f' → Apart σd' fps' f') → TgR sl F f σd' fps' σ' → Q σ' H) E
theorem PG_imp {X : Cx} {e : Expr} {t t' : TG} (h : PG X e t) (k : ∀ v σ H Q, t' v σ H Q → t v σ H Q) : PG X e t' := ⟨fun pins s σ H v u Q I r q => h.run pins s σ H v u Q I r (k v σ H Q q)⟩
theorem PGs_imp {X : Cx} {e : List Expr} {t t' : TGs} (h : PGs X e t) (k : ∀ v σ H Q, t' v σ H Q → t v σ H Q) : PGs X e t' := ⟨fun pins s σ H v u Q I r q => h.run pins s σ H v u Q I r (k v σ H Q q)⟩
section
variable {X : Cx} {XR : XRel} {W : WX} {Γ : FEnv}
theorem sg_name {e : Expr} {i : Nat} (h : PG X e (gName i)) : PG X e (TGv [i] (gSlot i)) := PG_imp h fun v σ H Q ⟨F, b, d, f, E, e, I, rd, own, ap, q⟩ => by
  subst e
  refine q (fun j => if j = i then f else F.fps j) _ ?_ ?_ ⟨fun j hj => ?_, fun j hj a ha => ?_, List.length_set ..⟩
  · refine I.set (x := .dat d) rd own (fun j s hj h a ha => ap j s h a ha) ?_ fun a ha => ?_
    · cases hp : pur d with
      | true => rw [if_pos rfl, Rd.pure rd hp]; exact List.nodup_nil
      | false => rw [if_neg (by simp)]; trivial
    · cases hp : pur d with
      | true => rw [hp, if_pos rfl, Rd.pure rd hp] at ha; cases ha
      | false => rw [hp, if_neg (by simp)] at ha; cases ha
  · intro f' hf' j s h a ha
    rcases set_key h with ⟨rfl, rfl⟩ | ⟨hj, h⟩
    · dsimp only at ha
      rw [if_pos rfl] at ha
      cases hp : pur d with
      | true => rw [hp, if_pos rfl, Rd.pure rd hp] at ha; cases ha
      | false => rw [hp, if_neg (by simp)] at ha; cases ha
    · dsimp only at ha
      rw [if_neg hj] at ha
      exact hf' j s h a ha
  · have hj : j ≠ i := by simpa using hj
    exact ⟨List.getElem?_set_ne (Ne.symm hj), if_neg hj, List.getElem?_set_ne (Ne.symm hj)⟩
  · have hj : j = i := by simpa using hj
    subst hj
    rw [if_pos rfl] at ha
    exact ha
theorem sgs_nil : PGs X [] (TGsv [] []) := PGs_imp pgs_nil fun vs σ H Q ⟨F, b, ds, f, E, e, I, rd, own, ap, hl, q⟩ => by
  subst e
  have : ds = [] := by simpa using hl
  subst this
  cases rd
  exact ⟨rfl, q F.fps F.σ I (fun _ h => h) ⟨fun j _ => ⟨rfl, rfl, rfl⟩, fun j hj => (nomatch hj), rfl⟩⟩
theorem sgs_cons {e : Expr} {es : List Expr} {g : SemG} {gs : List SemG} {s1 s2 : List Nat} (h1 : PG X e (TGv s1 g)) (h2 : PGs X es (TGsv s2 gs)) (hs : (assignEach (e :: es) X.env).map (·.2) = assign e X.env :: (assignEach es X.env).map (·.2)) : PGs X (e :: es) (TGsv (s1 ++ s2) (g :: gs)) :=
  PGs_imp (pgs_cons h1 h2 hs) fun vs σ H Q ⟨F, b, ds, f, E, e, I, rd, own, ap, hl, q⟩ => by
    subst e
    cases rd with
    | nil => cases hl
    | @cons d v ds vs f1 f2 r t =>
      refine ⟨v, vs, rfl, F, b, d, f1, E, rfl, I, r, fun a ha => own a (List.mem_append_left _ ha), fun j s h a ha z => ap j s h a ha (List.mem_append_left _ z), ?_⟩
      refine wpB_mono (fun b' σd' z fps' σ' I' ap' tg' => ?_) (fun _ _ z => z) _ _ ((wpB_bind _ _).mp q)
      refine ⟨F.at_ σd' fps' σ', b', ds, f2, E, rfl, I', t, fun a ha => own a (List.mem_append_right _ ha), ap' f2 fun j s h a ha z => ap j s h a ha (List.mem_append_right _ z), by simpa using hl, ?_⟩
      refine wpB_mono (fun b2 σd2 y fps2 σ2 I2 ap2 tg2 => y fps2 σ2 I2 (fun f' hf' => ap2 f' (ap' f' hf')) ⟨fun j hj => ?_, fun j hj a ha => ?_, tg2.len.trans tg'.len⟩) (fun _ _ z => z) _ _ z
      · simp only [List.mem_append, not_or] at hj
        obtain ⟨x1, x2, x3⟩ := tg2.off j hj.2
        obtain ⟨y1, y2, y3⟩ := tg'.off j hj.1
        exact ⟨x1.trans y1, x2.trans y2, x3.trans y3⟩
      · by_cases h2 : j ∈ s2
        · exact List.mem_append_right _ (tg2.on j h2 a ha)
        · rw [(tg2.off j h2).2.1] at ha
          exact List.mem_append_left _ (tg'.on j ((List.mem_append.mp hj).resolve_right h2) a ha)
theorem sg_tup {e : Expr} {n : Nat} {gs : List SemG} {sl : List Nat} (hn : n = gs.length) (h : PG X e (L2.gTup X.K n (TGsv sl gs))) : PG X e (TGv sl (DD.gTup gs)) := PG_imp h fun v σ H Q ⟨F, b, d, f, E, e, I, rd, own, ap, q⟩ => by
  subst e
  cases rd with
  | @tup a xs vs _ e t =>
    have q : wpB b (if xs.length = gs.length then goG gs xs F.σd else M.fail) (fun b' σd' => ∀ fps' σ', InvD F.A F.H0 F.st b' σd' fps' σ' H → (∀ f', Apart F.σd F.fps f' → Apart σd' fps' f') → TgR sl F f σd' fps' σ' → Q σ' H) E := q
    split at q
    · rename_i hl
      exact ⟨a, vs, rfl, SqT.of e, by rw [hn, ← hl, t.length], F, b, xs, f, E, rfl, I, t, own, ap, hl, q⟩
    · exact q.elim
  | _ => exact (show False from q).elim
/-- a, b = e -/
theorem ss_unp {s : Stmt} {g : SemG} {sl : List Nat} {te : SemE} (h : PS X s (tAsg (TEv XR W Γ te) (TGv sl g))) : PS X s (TSv XR W Γ (sUnp g te)) := PS_imp h fun D σ H ⟨F, b, e, I, q⟩ => by
  subst e
  refine ts_bindE I q fun b1 r v H1 f1 q1 I1 e1 rs1 => ?_
  cases hv : r.v with
  | dat d =>
    rw [hv] at q1
    refine ⟨F.at_ (demote r.t F.σd) F.fps F.σ, b1, d, f1, F.ES XR W, rfl, I1.demote r.t, rs1.vr.nil hv, rs1.own I, fun j s h a ha z => (rs1.src a z).apart I h ha, ?_⟩
    exact wpB_mono (fun b' σd' z fps' σ' I' _ _ => z fps' σ' _ I') (fun _ _ z => z) _ _ ((wpB_bind _ _).mp q1)
  | strm => rw [hv] at q1; exact (show False from q1).elim
  | scr => rw [hv] at q1; exact (show False from q1).elim
end
/-! ### what is walked -/
def Keeps (fp : List Addr) (H1 H : Hp) : Prop := ∀ a o, H1 a = some o → (a ∈ fp ∨ ∃ vs, o = .tup vs) → (∀ ps, o ≠ .tbl ps) → H a = some o
/-- J walks the items; their cells are among fp -/
structure ItsD (items : List PyData) (fp : List Addr) (H1 : Hp) (J : It) : Prop where
  ex : ∃ Y, Walk J items.length (Keeps fp H1) Y ∧ ∀ i H x H', i < items.length → Keeps fp H1 H → Y i H x H' → (H' = H ∨ ∃ T o, H T = none ∧ H' = upd H T o) ∧ ∃ d f, items[i]? = some d ∧ Rd H' d x f ∧ ∀ a ∈ f, a ∈ fp
def ItOk (F : Fm) (Hs H1 : Hp) (items : List PyData) (t : List Nat) (J : It) : Prop := ∃ fp, (∀ a ∈ fp, Src F.σd F.fps Hs t a ∧ H1 a ≠ none) ∧ ItsD items fp H1 J
def TIv (XR : XRel) (W : WX) (Γ : FEnv) (f : SemI) : TI := fun σ H R => ∃ (F : Fm) (b : Nat), F.σ = σ ∧ F.Inv b H ∧ wpB b (f Γ F.σd) (fun b' z => ∀ J H', F.Inv b' H' → ExtS F.st H H' → ItOk F H H' z.1 z.2 J → R J H') (F.EP XR W H)
theorem PI_imp {X : Cx} {tg e : Expr} {t t' : TI} (h : PI X tg e t) (k : ∀ σ H R, t' σ H R → t σ H R) : PI X tg e t' := ⟨fun pins s σ H R I q => h.run pins s σ H R I (k σ H R q)⟩
theorem Keeps.sub {fp fp' : List Addr} {H1 H : Hp} (h : Keeps fp H1 H) (s : ∀ a ∈ fp', a ∈ fp) : Keeps fp' H1 H := fun a o e z => h a o e (z.imp (s a) id)
theorem RdL.at {H : Hp} {ds : List PyData} {vs : List V} {fp : List Addr} (h : RdL H ds vs fp) {i : Nat} {v : V} (e : vs[i]? = some v) : ∃ d f, ds[i]? = some d ∧ Rd H d v f ∧ ∀ a ∈ f, a ∈ fp := by
  have hi : i < ds.length := by rw [h.length]; exact (List.getElem?_eq_some_iff.mp e).1
  obtain ⟨v', f, l, r, e1, e2, e3⟩ := RdL.get h (i := i) (d := ds[i]) (List.getElem?_eq_getElem hi)
  rw [e] at e1
  cases e1
  exact ⟨_, f, List.getElem?_eq_getElem hi, e2, fun a ha => by rw [e3]; simp [ha]⟩
theorem Rd.upd {H : Hp} {d : PyData} {v : V} {f : List Addr} {T : Addr} {o : HO} (h : Rd H d v f) (n : H T = none) : Rd (L2.upd H T o) d v f := h.keep fun a u e _ => by rw [upd_ne (ne_of_none e n)]; exact e
theorem its_lst {K : PySem.W.Frag} {H1 : Hp} {xs : List PyData} {vs : List V} {a : Addr} {fp : List Addr} (e : H1 a = some (.lst vs)) (h : RdL H1 xs vs fp) : ItsD xs (a :: fp) H1 (Itl K a) := by
  refine ⟨YAt vs, ?_, fun i H x H' hi k y => ?_⟩
  · rw [h.length]
    exact walk_list.mono (fun H k => SqL.of (k a _ e (.inl List.mem_cons_self) (fun _ c => by cases c))) fun i H x H' hi k y => y
  · obtain ⟨rfl, hx⟩ := y
    obtain ⟨d, f, e1, e2, e3⟩ := h.at hx
    exact ⟨.inl rfl, d, f, e1, e2.keep2 (k.sub fun a z => List.mem_cons_of_mem _ (e3 a z)), fun a z => List.mem_cons_of_mem _ (e3 a z)⟩
theorem its_tup {K : PySem.W.Frag} {H1 : Hp} {xs : List PyData} {vs : List V} {a : Addr} {fp : List Addr} (e : H1 a = some (.tup vs)) (h : RdL H1 xs vs fp) : ItsD xs fp H1 (Itt K a) := by
  refine ⟨YAt vs, ?_, fun i H x H' hi k y => ?_⟩
  · rw [h.length]
    exact walk_tup.mono (fun H k => SqT.of (k a _ e (.inr ⟨_, rfl⟩) (fun _ c => by cases c))) fun i H x H' hi k y => y
  · obtain ⟨rfl, hx⟩ := y
    obtain ⟨d, f, e1, e2, e3⟩ := h.at hx
    exact ⟨.inl rfl, d, f, e1, e2.keep2 (k.sub e3), e3⟩
theorem rangeD_get {lo : Int} {n i : Nat} (h : i < n) : (rangeD lo n)[i]? = some (.int (lo + (i : Int))) := by
  unfold rangeD
  rw [List.getElem?_map, List.getElem?_range h]
  rfl
theorem its_range {H1 : Hp} {lo : Int} {n : Nat} : ItsD (rangeD lo n) [] H1 (Itr lo n) := by
  have hl : (rangeD lo n).length = n := by simp [rangeD]
  refine ⟨YFn fun i => .int (lo + i), ?_, fun i H x H' hi k y => ?_⟩
  · rw [hl]
    exact walk_range.mono (fun H k => trivial) fun i H x H' hi k y => y
  · obtain ⟨rfl, rfl⟩ := y
    rw [hl] at hi
    exact ⟨.inl rfl, _, [], rangeD_get hi, .int _, fun a z => nomatch z⟩
theorem enumD_get : ∀ {xs : List PyData} {k i : Nat} {d : PyData}, xs[i]? = some d → (enumD k xs)[i]? = some (.tuple [.int (k + i : Nat), d])
  | [], _, _, _, h => by simp at h
  | x :: xs, k, 0, d, h => by simp at h; subst h; rfl
  | x :: xs, k, i + 1, d, h => by
    have := enumD_get (xs := xs) (k := k + 1) (i := i) (d := d) (by simpa using h)
    show (enumD (k + 1) xs)[i]? = _
    rw [this, show k + 1 + i = k + (i + 1) by omega]
theorem enumD_len : ∀ (xs : List PyData) (k : Nat), (enumD k xs).length = xs.length
  | [], _ => rfl
  | x :: xs, k => by simp [enumD, enumD_len xs (k + 1)]
theorem Rd.pair {H : Hp} {d e : PyData} {v w : V} {f g : List Addr} {T : Addr} (h : Rd H d v f) (k : Rd H e w g) (n : H T = none) : Rd (L2.upd H T (.tup [v, w])) (.tuple [d, e]) (.ref T) (f ++ g) := by
  have := RdL.cons (h.upd (T := T) (o := .tup [v, w]) n) (RdL.one (k.upd (T := T) (o := .tup [v, w]) n))
  exact .tup upd_same this
theorem its_enum {K : PySem.W.Frag} {H1 : Hp} {xs : List PyData} {vs : List V} {a : Addr} {fp : List Addr} (e : H1 a = some (.lst vs)) (h : RdL H1 xs vs fp) : ItsD (enumD 0 xs) (a :: fp) H1 (Ite K a) := by
  refine ⟨YPair (fun i => some (.int (i : Nat))) (fun i => vs[i]?), ?_, fun i H x H' hi k y => ?_⟩
  · rw [enumD_len, h.length]
    exact walk_enum.mono (fun H k => SqL.of (k a _ e (.inl List.mem_cons_self) (fun _ c => by cases c))) fun i H x H' hi k y => y
  · obtain ⟨T, u, w, rfl, hT, rfl, hu, hw⟩ := y
    cases hu
    obtain ⟨d, f, e1, e2, e3⟩ := h.at hw
    have rd := Rd.pair (.int (i : Nat)) (e2.keep2 (k.sub fun a z => List.mem_cons_of_mem _ (e3 a z))) hT
    refine ⟨.inr ⟨T, _, hT, rfl⟩, _, f, by rw [enumD_get e1, Nat.zero_add], rd, fun a z => List.mem_cons_of_mem _ (e3 a z)⟩
theorem walk_zipT {K : PySem.W.Frag} {a b : Addr} {xs ys : List V} {n : Nat} (hn : n = min xs.length ys.length) : Walk (ItzT K a b) n (fun H => SqT K H a xs ∧ SqT K H b ys) (YPair (fun i => xs[i]?) (fun i => ys[i]?)) := by
  subst hn
  refine ⟨fun i _ hi q => ?_, fun _ q => ⟨xs, ys, q.1, q.2, by omega⟩, fun i H v H' _ q y => ?_⟩
  · have h1 : i < xs.length := by omega
    have h2 : i < ys.length := by omega
    exact ⟨xs, ys, xs[i], ys[i], q.1, q.2, by simp [h1], by simp [h2]⟩
  · obtain ⟨T, x, y, h1, h2, h3, h4, h5⟩ := y
    exact ⟨T, x, y, h1, h2, h3, h4 xs q.1, h5 ys q.2⟩
theorem its_zip2 {H1 : Hp} {xs ys : List PyData} {vs ws : List V} {fp gp : List Addr} {J : It} {hd : List Addr} (h : RdL H1 xs vs fp) (k : RdL H1 ys ws gp)
    (w : Walk J (min vs.length ws.length) (Keeps (hd ++ fp ++ gp) H1) (YPair (fun i => vs[i]?) (fun i => ws[i]?))) : ItsD ((xs.zip ys).map pairD) (hd ++ fp ++ gp) H1 J := by
  refine ⟨YPair (fun i => vs[i]?) (fun i => ws[i]?), ?_, fun i H x H' hi kk y => ?_⟩
  · rw [List.length_map, List.length_zip, h.length, k.length]
    exact w
  · obtain ⟨T, u, w, rfl, hT, rfl, hu, hw⟩ := y
    obtain ⟨d, f, e1, e2, e3⟩ := h.at hu
    obtain ⟨d', f', e1', e2', e3'⟩ := k.at hw
    have s1 : ∀ a ∈ f, a ∈ hd ++ fp ++ gp := fun a z => by simp [e3 a z]
    have s2 : ∀ a ∈ f', a ∈ hd ++ fp ++ gp := fun a z => by simp [e3' a z]
    refine ⟨.inr ⟨T, _, hT, rfl⟩, .tuple [d, d'], f ++ f', ?_, Rd.pair (e2.keep2 (kk.sub s1)) (e2'.keep2 (kk.sub s2)) hT, fun a z => (List.mem_append.mp z).elim (s1 a) (s2 a)⟩
    rw [List.getElem?_map, List.getElem?_zip_eq_some (z := (d, d')) |>.mpr ⟨e1, e1'⟩]
    rfl
section
variable {X : Cx} {XR : XRel} {W : WX} {Γ : FEnv}
def iSeq (K : PySem.W.Frag) (tl : TE) : TI := fun σ H R => tl σ H fun x H1 => ∃ a, x = .ref a ∧ (((∃ xs, SqL K H1 a xs) ∧ R (Itl K a) H1) ∨ ((∃ xs, SqT K H1 a xs) ∧ R (Itt K a) H1))
theorem pi_seq {tg l : Expr} {tl : TE} (hl : PE X l tl) : PI X tg l (iSeq X.K tl) := by
  refine ⟨fun pins s σ H R I h => ?_⟩
  refine thn (hl.run pins s σ H _ I h) fun v s1 ⟨x, H1, I1, r1, q1⟩ => ?_
  obtain ⟨a, e, q1⟩ := q1
  subst e
  cases r1
  rcases q1 with ⟨⟨xs, hq⟩, q⟩ | ⟨⟨xs, hq⟩, q⟩
  · obtain ⟨its, rv, p, hz⟩ := I1.list hq
    refine wpAny_pyIter_list p.isList ?_
    refine ⟨s1.heap.objs.size, [s1.heap.objs.size], _, _, H1, rfl, I1.kept (t' := s1.toks) fun b o e => Heap.get?_push_of_some _ e, turn_list a _, ⟨_, Heap.get?_push_size _ rfl, rfl, rfl⟩, fun b hb => ?_, q⟩
    have e : b = s1.heap.objs.size := by simpa using hb
    subst e
    exact I1.fpOk (Nat.le_refl _) (I1.hok.fresh (Nat.le_refl _))
  · obtain ⟨its, rv, p, hz⟩ := I1.tuple hq
    refine wpAny_pyIter_tuple (show s1.heap.IsTuple a its.toArray from p) ?_
    refine ⟨s1.heap.objs.size, [s1.heap.objs.size], _, _, H1, rfl, I1.kept (t' := s1.toks) fun b o e => Heap.get?_push_of_some _ e, turn_tuple a _, ⟨_, Heap.get?_push_size _ rfl, rfl, rfl⟩, fun b hb => ?_, q⟩
    have e : b = s1.heap.objs.size := by simpa using hb
    subst e
    exact I1.fpOk (Nat.le_refl _) (I1.hok.fresh (Nat.le_refl _))
theorem si_val {tg e : Expr} {te : SemE} (h : PE X e (TEv XR W Γ te)) : PI X tg e (TIv XR W Γ (iVal te)) := PI_imp (pi_seq h) fun σ H R ⟨F, b, e, I, q⟩ => by
  subst e
  unfold iVal at q
  refine te_bind I .refl q fun b1 r1 x H1 f1 q1 I1 e1 rs1 => ?_
  cases hv : r1.v with
  | dat d =>
    rw [hv] at q1
    have rd := rs1.vr.nil hv
    have src := rs1.src
    cases rd with
    | lst e t => exact ⟨_, rfl, .inl ⟨⟨_, SqL.of e⟩, q1 _ _ I1 e1 ⟨_, fun a z => ⟨src a z, rs1.vr.dom a z⟩, its_lst e t⟩⟩⟩
    | tup e t => exact ⟨_, rfl, .inr ⟨⟨_, SqT.of e⟩, q1 _ _ I1 e1 ⟨_, fun a z => ⟨src a z, rs1.vr.dom a z⟩, its_tup e t⟩⟩⟩
    | _ => exact (show False from q1).elim
  | strm => rw [hv] at q1; exact (show False from q1).elim
  | scr => rw [hv] at q1; exact (show False from q1).elim
theorem small62_t {i : Int} (h : small62 i = true) : -(2 ^ 62) ≤ i ∧ i < 2 ^ 62 := by
  unfold small62 at h
  simp only [Bool.and_eq_true, decide_eq_true_eq] at h
  omega
theorem si_range1 {tg e : Expr} {te : SemE} (h : PI X tg e (iRng1 (tCons (TEv XR W Γ te) tNil))) : PI X tg e (TIv XR W Γ (iRange1 te)) := PI_imp h fun σ H R ⟨F, b, e, I, q⟩ => by
  subst e
  unfold iRange1 at q
  refine te_bind I .refl q fun b1 r1 x H1 f1 q1 I1 e1 rs1 => ?_
  cases hv : r1.v with
  | dat d =>
    rw [hv] at q1
    cases d with
    | int j =>
      have hx := (rs1.vr.nil hv).int_inv
      subst hx
      have q1 : wpB b1 (if small62 j then M.ret (rangeD 0 j.toNat, []) else M.fail) (fun b' (z : List PyData × List Nat) => ∀ J H', F.Inv b' H' → ExtS F.st H H' → ItOk F H H' z.1 z.2 J → R J H') (F.EP XR W H) := q1
      split at q1
      · rename_i hs
        obtain ⟨s1, s2⟩ := small62_t hs
        exact ⟨j, rfl, s1, s2, q1 _ _ I1 e1 ⟨[], (fun a z => nomatch z), its_range⟩⟩
      · exact q1.elim
    | _ => exact (show False from q1).elim
  | strm => rw [hv] at q1; exact (show False from q1).elim
  | scr => rw [hv] at q1; exact (show False from q1).elim
theorem si_range2 {tg e : Expr} {ta tb : SemE} (h : PI X tg e (iRng2 (tCons (TEv XR W Γ ta) (tCons (TEv XR W Γ tb) tNil)))) : PI X tg e (TIv XR W Γ (iRange2 ta tb)) := PI_imp h fun σ H R ⟨F, b, e, I, q⟩ => by
  subst e
  unfold iRange2 at q
  refine te_bind I .refl q fun b1 r1 x H1 f1 q1 I1 e1 rs1 => ?_
  refine te_bind I1 e1 q1 fun b2 r2 y H2 f2 q2 I2 e2 rs2 => ?_
  cases hv : r1.v with
  | dat d =>
    rw [hv] at q2
    cases d with
    | int i =>
      have hx := (rs1.vr.nil hv).int_inv
      subst hx
      cases hw : r2.v with
      | dat d =>
        rw [hw] at q2
        cases d with
        | int j =>
          have hy := (rs2.vr.nil hw).int_inv
          subst hy
          have q2 : wpB b2 (if small62 i && small62 j then M.ret (rangeD i (j - i).toNat, []) else M.fail) (fun b' (z : List PyData × List Nat) => ∀ J H', F.Inv b' H' → ExtS F.st H H' → ItOk F H H' z.1 z.2 J → R J H') (F.EP XR W H) := q2
          split at q2
          · rename_i hs
            simp only [Bool.and_eq_true] at hs
            obtain ⟨s1, s2⟩ := small62_t hs.1
            obtain ⟨s3, s4⟩ := small62_t hs.2
            exact ⟨i, j, rfl, ⟨s1, s2, s3, s4⟩, q2 _ _ I2 (e1.trans e2) ⟨[], (fun a z => nomatch z), its_range⟩⟩
          · exact q2.elim
        | _ => exact (show False from q2).elim
      | strm => rw [hw] at q2; exact (show False from q2).elim
      | scr => rw [hw] at q2; exact (show False from q2).elim
    | _ => exact (show False from q2).elim
  | strm => rw [hv] at q2; exact (show False from q2).elim
  | scr => rw [hv] at q2; exact (show False from q2).elim
theorem si_zip {tg e : Expr} {ta tb : SemE} (h : PI X tg e (iZipA X.K (tCons (TEv XR W Γ ta) (tCons (TEv XR W Γ tb) tNil)))) : PI X tg e (TIv XR W Γ (DD.iZip ta tb)) := PI_imp h fun σ H R ⟨F, b, e, I, q⟩ => by
  subst e
  unfold DD.iZip at q
  refine te_bind I .refl q fun b1 r1 x H1 f1 q1 I1 e1 rs1 => ?_
  refine te_bind I1 e1 q1 fun b2 r2 y H2 f2 q2 I2 e2 rs2 => ?_
  have rs1' := rs1.grow I I1.strm e2
  cases hv : r1.v with
  | dat d =>
    cases hw : r2.v with
    | dat d' =>
      rw [hv, hw] at q2
      have rd1 := rs1'.vr.nil hv
      have rd2 := rs2.vr.nil hw
      have src : ∀ a ∈ f1 ++ f2, Src F.σd F.fps H (r1.t ++ r2.t) a ∧ H2 a ≠ none := fun a z => (List.mem_append.mp z).elim (fun z => ⟨(rs1.src a z).mono fun i hi => List.mem_append_left _ hi, rs1'.vr.dom a z⟩) fun z => ⟨((rs2.src a z).base e1).mono fun i hi => List.mem_append_right _ hi, rs2.vr.dom a z⟩
      cases rd1 with
      | @lst a xs vs fa ea ta =>
        cases rd2 with
        | @lst c ys ws fb eb tb =>
          refine ⟨_, _, _, _, rfl, .inl ⟨SqL.of ea, SqL.of eb, q2 _ _ I2 (e1.trans e2) ⟨[a, c] ++ fa ++ fb, fun x z => src x (by simp only [List.mem_append, List.mem_cons, List.not_mem_nil, or_false] at z ⊢; rcases z with ((z | z) | z) | z <;> simp [z]), its_zip2 ta tb ?_⟩⟩⟩
          exact (walk_zip rfl).mono (fun H k => ⟨SqL.of (k a _ ea (.inl (by simp)) (fun _ c => by cases c)), SqL.of (k c _ eb (.inl (by simp)) (fun _ c => by cases c))⟩) fun i H x H' hi k y => y
        | _ => exact (show False from q2).elim
      | @tup a xs vs _ ea ta =>
        cases rd2 with
        | @tup c ys ws _ eb tb =>
          refine ⟨_, _, _, _, rfl, .inr ⟨SqT.of ea, SqT.of eb, q2 _ _ I2 (e1.trans e2) ⟨[] ++ f1 ++ f2, src, its_zip2 ta tb ?_⟩⟩⟩
          exact (walk_zipT rfl).mono (fun H k => ⟨SqT.of (k a _ ea (.inr ⟨_, rfl⟩) (fun _ c => by cases c)), SqT.of (k c _ eb (.inr ⟨_, rfl⟩) (fun _ c => by cases c))⟩) fun i H x H' hi k y => y
        | _ => exact (show False from q2).elim
      | _ => cases rd2 <;> exact (show False from q2).elim
    | strm => rw [hv, hw] at q2; cases d <;> exact (show False from q2).elim
    | scr => rw [hv, hw] at q2; cases d <;> exact (show False from q2).elim
  | strm => rw [hv] at q2; exact (show False from q2).elim
  | scr => rw [hv] at q2; exact (show False from q2).elim
end
end DD
set_option Elab.async false
set_option linter.all false
set_option maxRecDepth 100000
set_option maxHeartbeats 4000000
/-! DS12: loops. -/
namespace DD
open PySem PySem.Spec PyProof.Rows L2 RZ
open Classical in
/-- the heap without the cells that slots hold alone -/
noncomputable def cutH (σd : SD) (fps : Nat → List Addr) (H : Hp) : Hp := fun a => if (∃ j s, σd[j]? = some (some s) ∧ a ∈ exs s.m (fps j)) then none else H a
noncomputable def Fm.re (F : Fm) (H : Hp) : Fm := { F with A := fun a => Own F.A F.H0 F.st a, H0 := cutH F.σd F.fps H }
section
variable {F : Fm} {b : Nat} {H1 : Hp}
theorem cut_ne {σd : SD} {fps : Nat → List Addr} {H : Hp} {a : Addr} (h : ¬ ∃ j s, σd[j]? = some (some s) ∧ a ∈ exs s.m (fps j)) : cutH σd fps H a = H a := if_neg h
theorem cut_none {σd : SD} {fps : Nat → List Addr} {H : Hp} {a : Addr} (h : cutH σd fps H a = none) : (∃ j s, σd[j]? = some (some s) ∧ a ∈ exs s.m (fps j)) ∨ H a = none := by
  unfold cutH at h
  split at h
  · rename_i c; exact .inl c
  · exact .inr h
theorem re_none (I : F.Inv b H1) {a : Addr} (h : (F.re H1).H0 a = none) : F.H0 a = none := by
  rcases cut_none h with ⟨j, s, e, z⟩ | h
  · exact ((I.fr j s e).2 a z).1
  · exact I.h0 h
theorem re_some (I : F.Inv b H1) {a : Addr} {o : HO} (h : (F.re H1).H0 a = some o) : H1 a = some o := by
  have : cutH F.σd F.fps H1 a = some o := h
  unfold cutH at this
  split at this
  · cases this
  · exact this
theorem re_ext0 (I : F.Inv b H1) : ExtS F.st F.H0 (F.re H1).H0 := by
  refine ⟨fun a o e c nt => ?_, fun a e => re_none I e⟩
  have : ¬ ∃ j s, F.σd[j]? = some (some s) ∧ a ∈ exs s.m (F.fps j) := fun ⟨j, s, e', z⟩ => by
    have := ((I.fr j s e').2 a z).1
    rw [e] at this; cases this
  show cutH F.σd F.fps H1 a = some o
  rw [cut_ne this]
  exact I.ext.1 a o e c nt
theorem re_ext (I : F.Inv b H1) {H : Hp} (e : ExtS F.st (F.re H1).H0 H) : ExtS F.st F.H0 H := (re_ext0 I).trans e
theorem re_own (I : F.Inv b H1) {a : Addr} (h : Own (F.re H1).A (F.re H1).H0 F.st a) : Own F.A F.H0 F.st a := by
  obtain ⟨h | h, n⟩ := h
  · exact h
  · exact ⟨.inr (re_none I h), n⟩
theorem re_inv (I : F.Inv b H1) : (F.re H1).Inv b H1 := by
  refine ⟨I.len, ⟨fun a o e c _ => re_some I e, fun a e => ?_⟩, I.strm, I.slot, fun i s h a ha => ⟨.inl (I.own i s h a ha), (I.own i s h a ha).2⟩, fun i s h => ⟨(I.fr i s h).1, fun a ha => ⟨?_, ((I.fr i s h).2 a ha).2⟩⟩⟩
  · show cutH F.σd F.fps H1 a = none
    unfold cutH
    split
    · rfl
    · exact e
  · show cutH F.σd F.fps H1 a = none
    unfold cutH
    rw [if_pos ⟨i, s, h, ha⟩]
theorem re_back (I : F.Inv b H1) {b' : Nat} {σd : SD} {fps : Nat → List Addr} {σ : L2.St} {H : Hp} (J : InvD (F.re H1).A (F.re H1).H0 F.st b' σd fps σ H) : InvD F.A F.H0 F.st b' σd fps σ H :=
  ⟨J.len, re_ext I J.ext, J.strm, J.slot, fun i s h a ha => re_own I (J.own i s h a ha), fun i s h => ⟨(J.fr i s h).1, fun a ha => ⟨re_none I ((J.fr i s h).2 a ha).1, ((J.fr i s h).2 a ha).2⟩⟩⟩
theorem re_keep (I : F.Inv b H1) {fp : List Addr} (ap : Apart F.σd F.fps fp) (ns : ∀ a ∈ fp, ¬ stC F.st a) {H : Hp} (e : ExtS F.st (F.re H1).H0 H) : Keeps fp H1 H := by
  intro a o ea z nt
  have n1 : ¬ ∃ j s, F.σd[j]? = some (some s) ∧ a ∈ exs s.m (F.fps j) := fun ⟨j, s, e', y⟩ => by
    rcases z with z | ⟨vs, rfl⟩
    · exact ap j s e' a y z
    · obtain ⟨v, e1, e2⟩ := I.slot j s e'
      cases hv : s.v with
      | dat d =>
        rw [hv] at e2
        exact (Rd.dom e2 a (exs_sub y)).2 vs ea
      | strm => rw [hv] at e2; have := exs_sub y; rw [e2.1] at this; cases this
      | scr => rw [hv] at e2; exact e2
  have n2 : ¬ stC F.st a := fun c => by
    rcases z with z | ⟨vs, rfl⟩
    · exact ns a z c
    · obtain ⟨us, hu, w⟩ := I.strm.lst c
      rw [ea] at hu; cases hu
      rcases w with ⟨_, w⟩ | ⟨_, w⟩ <;> cases w
  exact e.1 a o (by show cutH F.σd F.fps H1 a = some o; rw [cut_ne n1]; exact ea) n2 nt
theorem re_in (I : F.Inv b H1) {fp : List Addr} (ap : Apart F.σd F.fps fp) (dom : ∀ a ∈ fp, H1 a ≠ none) : ∀ a ∈ fp, (F.re H1).H0 a ≠ none := by
  intro a ha
  have n1 : ¬ ∃ j s, F.σd[j]? = some (some s) ∧ a ∈ exs s.m (F.fps j) := fun ⟨j, s, e', y⟩ => ap j s e' a y ha
  show cutH F.σd F.fps H1 a ≠ none
  rw [cut_ne n1]
  exact dom a ha
theorem apart_of {A : Addr → Prop} {H0 : Hp} {st : StT} {σd : SD} {fps : Nat → List Addr} {σ : L2.St} {H : Hp} {fp : List Addr} (I : InvD A H0 st b σd fps σ H) (h : ∀ a ∈ fp, H0 a ≠ none) : Apart σd fps fp :=
  fun j s e a ha z => h a z ((I.fr j s e).2 a ha).1
end
section
variable {X : Cx} {XR : XRel} {W : WX} {Γ : FEnv}
theorem ss_for {s : Stmt} {f : SemI} {g : SemG} {sl : List Nat} {bd : SemS} (h : PS X s (tFor (TIv XR W Γ f) (TGv sl g) (TSv XR W Γ bd))) : PS X s (TSv XR W Γ (sFor f g bd)) := PS_imp h fun D σ H ⟨F, b, e, I, q⟩ => by
  subst e
  refine ⟨F, b, rfl, I, wpB_mono (fun b1 z q1 J H1 I1 e1 ok => ?_) (fun _ _ => F.ES_EP) _ _ ((wpB_bind _ _).mp q)⟩
  obtain ⟨items, t⟩ := z
  obtain ⟨fp, src, ⟨Y, wk, hy⟩⟩ := ok
  have I2 := I1.demote t
  let F1 : Fm := F.at_ (demote t F.σd) F.fps F.σ
  have I2' : F1.Inv b1 H1 := I2
  have ap : Apart F1.σd F1.fps fp := fun j s h a ha z => ((src a z).1).apart I h ha
  have own : ∀ a ∈ fp, Own F.A F.H0 F.st a := fun a z => (src a z).1.own I
  have ns : ∀ a ∈ fp, ¬ stC F.st a := fun a z => (own a z).2
  have hin := re_in I2' ap fun a z => (src a z).2
  have hk : ∀ {H : Hp}, ExtS F.st (F1.re H1).H0 H → Keeps fp H1 H := fun e => re_keep I2' ap ns e
  refine for_it wk (fun i σ' H' => ∃ σd fps b, InvD (F1.re H1).A (F1.re H1).H0 F.st b σd fps σ' H' ∧ wpB b (forGo g bd Γ (items.drop i) σd) (F.OQ D) (F.ES XR W)) ⟨_, _, b1, re_inv I2', q1⟩ (fun i σ' H' _ ⟨σd, fps, b, Iv, _⟩ => hk Iv.ext) ?_ ?_
  · rintro i x σ' H' H'' hi ⟨σd, fps, b2, Iv, w⟩ hY
    obtain ⟨hH, d, f, ed, rd, sub⟩ := hy i H' x H'' hi (hk Iv.ext) hY
    have Iv' : InvD (F1.re H1).A (F1.re H1).H0 F.st b2 σd fps σ' H'' := by
      rcases hH with rfl | ⟨T, o, hT, rfl⟩
      · exact Iv
      · exact Iv.new hT
    have hdrop : items.drop i = d :: items.drop (i + 1) := by
      obtain ⟨hl, he⟩ := List.getElem?_eq_some_iff.mp ed
      rw [← he, List.getElem_cons_drop]
    rw [hdrop] at w
    let F3 : Fm := ⟨(F1.re H1).A, (F1.re H1).H0, F.st, σd, fps, σ'⟩
    refine ⟨F3, b2, d, f, F.ES XR W, rfl, Iv', rd, fun a ha => ⟨.inl (own a (sub a ha)), ns a (sub a ha)⟩, apart_of Iv' fun a ha => hin a (sub a ha), ?_⟩
    refine wpB_mono (fun b3 σd3 w3 fps3 σ3 I3 _ _ => ?_) (fun _ _ z => z) _ _ ((wpB_bind _ _).mp w)
    let F4 : Fm := F3.at_ σd3 fps3 σ3
    refine ⟨F4, b3, rfl, I3, wpB_mono (fun b4 o w4 => ?_) (fun b4 x w4 cls dd σ5 H5 e5 s5 xr => w4 cls dd σ5 H5 (re_ext I2' e5) s5 xr) _ _ ((wpB_bind _ _).mp w3)⟩
    cases o with
    | nx σd5 => exact fun fps5 σ5 H5 I5 => ⟨σd5, fps5, b4, I5, w4⟩
    | ct σd5 => exact fun fps5 σ5 H5 I5 => ⟨σd5, fps5, b4, I5, w4⟩
    | bk σd5 => exact fun fps5 σ5 H5 I5 => w4 fps5 σ5 H5 (re_back I2' I5)
    | rt v fr σd5 => exact fun fps5 σ5 v' H5 fp5 I5 vr own5 fr5 fr6 ap5 => w4 fps5 σ5 v' H5 fp5 (re_back I2' I5) vr (fun a ha => re_own I2' (own5 a ha)) fr5 (fun a ha => re_none I2' (fr6 a ha)) ap5
  · rintro σ' H' ⟨σd, fps, b2, Iv, w⟩
    rw [List.drop_length] at w
    exact w fps σ' H' (re_back I2' Iv)
theorem ss_while {s : Stmt} {tc : SemT} {bd : SemS} (h : PS X s (tWhile (TTv XR W Γ tc) (TSv XR W Γ bd))) : PS X s (TSv XR W Γ (sWhile tc bd)) := PS_imp h fun D σ H ⟨F, b, e, I, q⟩ => by
  subst e
  refine ⟨fun m σ' H' => ∃ σd fps b, InvD F.A F.H0 F.st b σd fps σ' H' ∧ wpB b (whileGo tc bd Γ m σd) (F.OQ D) (F.ES XR W), ⟨fuelW, _, _, b, I, q⟩, ?_⟩
  rintro m σ' H' ⟨σd, fps, b1, I1, w⟩
  cases m with
  | zero => exact (show False from w).elim
  | succ m =>
    refine ⟨F.at_ σd fps σ', b1, rfl, I1, wpB_mono (fun b2 c w2 H2 I2 e2 => ?_) (fun _ _ z => (Fm.ES_EP (F := F.at_ σd fps σ') z)) _ _ ((wpB_bind _ _).mp w)⟩
    cases c with
    | false => exact w2 _ _ _ I2
    | true =>
      rw [if_pos rfl]
      refine ⟨fun σ5 H5 => ∃ σd fps b, InvD F.A F.H0 F.st b σd fps σ5 H5 ∧ wpB b (whileGo tc bd Γ m σd) (F.OQ D) (F.ES XR W), fun σ5 H5 z => ⟨m, Nat.lt_succ_self m, z⟩, ?_⟩
      refine ⟨F.at_ σd fps σ', b2, rfl, I2, wpB_mono (fun b4 o w4 => ?_) (fun _ _ z => z) _ _ ((wpB_bind _ _).mp w2)⟩
      cases o with
      | nx σd5 => exact fun fps5 σ5 H5 I5 => ⟨σd5, fps5, b4, I5, w4⟩
      | ct σd5 => exact fun fps5 σ5 H5 I5 => ⟨σd5, fps5, b4, I5, w4⟩
      | bk σd5 => exact w4
      | rt v fr σd5 => exact w4
end
end DD
set_option Elab.async false
set_option linter.all false
set_option maxRecDepth 100000
set_option maxHeartbeats 4000000
/-! DS13: list comprehensions. -/
namespace DD
open PySem PySem.Spec PyProof.Rows L2 RZ
theorem noX_wp {α : Type} {Q : Nat → α → Prop} {E : Nat → XV → Prop} : ∀ (m : M α) (b : Nat), wpB b (noX m) Q E → wpB b m Q (fun _ _ => False)
  | .ret a, b, h => h
  | .fail, b, h => h
  | .exc x, b, h => h
  | .draw n k, b, h => by
    obtain ⟨b', e, h0, h1, h⟩ := h
    exact ⟨b', e, h0, h1, fun i hi => noX_wp (k i) b' (h i hi)⟩
/-- with the walked slots' taint -/
def tnt (ct : List Nat) (r : R) : R := ⟨r.v, r.t ++ ct, r.f⟩
theorem datas_tnt (ct : List Nat) : ∀ rs : List R, datas (rs.map (tnt ct)) = datas rs
  | [] => rfl
  | r :: rs => by
    show (match r.v with
      | .dat d => (datas (rs.map (tnt ct))).map (d :: ·)
      | _ => none) = (match r.v with
      | .dat d => (datas rs).map (d :: ·)
      | _ => none)
    rw [datas_tnt ct rs]
theorem allF_tnt (ct : List Nat) (rs : List R) : allF (rs.map (tnt ct)) = allF rs := by
  unfold allF
  rw [List.all_map]
  rfl
/-- the fresh cells of the results -/
def ExA (rs : List R) (fs : List (List Addr)) (a : Addr) : Prop := ∃ p ∈ rs.zip fs, a ∈ exs p.1.f p.2
theorem RsAll.snoc {F : Fm} {Hs H : Hp} {rs : List R} {vs : List V} {fs : List (List Addr)} {r : R} {v : V} {f : List Addr} (h : RsAll F Hs H rs vs fs) (k : F.Rs Hs r v H f) (n : ∀ a ∈ f, ¬ ExA rs fs a) : RsAll F Hs H (rs ++ [r]) (vs ++ [v]) (fs ++ [f]) := by
  induction h with
  | nil => exact .cons k .nil fun a ha g hg => nomatch hg
  | cons r0 t d ih =>
    refine .cons r0 (ih fun a ha ⟨p, hp, hz⟩ => n a ha ⟨p, List.mem_cons_of_mem _ hp, hz⟩) fun a ha g hg z => ?_
    rcases List.mem_append.mp hg with hg | hg
    · exact d a ha g hg z
    · have : g = f := by simpa using hg
      subst this
      exact n a z ⟨(_, _), List.mem_cons_self, ha⟩
theorem RsAll.poke {F : Fm} {Hs H : Hp} {D : Addr} {o : HO} {rs : List R} {vs : List V} {fs : List (List Addr)} (h : RsAll F Hs H rs vs fs) (hD : ∀ us, H D ≠ some (.tup us)) (n : D ∉ fs.flatten) : RsAll F Hs (upd H D o) rs vs fs := by
  induction h with
  | nil => exact .nil
  | cons r0 t d ih =>
    rw [List.flatten_cons, List.mem_append, not_or] at n
    refine .cons ⟨?_, r0.src, r0.fr⟩ (ih n.2) d
    have e2 := r0.vr
    rename_i r v rs vs fp fs
    cases hx : r.v with
    | dat x =>
      rw [hx] at e2
      exact Rd.keep e2 fun a u e z => by
        have : a ≠ D := fun c => by
          subst c
          rcases z with z | ⟨us, rfl⟩
          · exact n.1 z
          · exact hD us e
        rw [upd_ne this]; exact e
    | strm => rw [hx] at e2; exact e2
    | scr => rw [hx] at e2; exact e2
/-- the block's slots -/
def wipeD' (σ : SD) (vs : List Nat) : SD := wipeD σ vs
theorem wipeD_len (σ : SD) : ∀ vs : List Nat, (wipeD σ vs).length = σ.length
  | [] => rfl
  | v :: vs => by unfold wipeD; rw [List.length_set, wipeD_len σ vs]
theorem wipeD_off {σ : SD} {j : Nat} : ∀ {vs : List Nat}, j ∉ vs → (wipeD σ vs)[j]? = σ[j]?
  | [], _ => rfl
  | v :: vs, h => by
    simp only [List.mem_cons, not_or] at h
    unfold wipeD
    rw [List.getElem?_set_ne (Ne.symm h.1), wipeD_off h.2]
theorem wipeD_on {σ : SD} {j : Nat} {s : Sl} : ∀ {vs : List Nat}, (wipeD σ vs)[j]? = some (some s) → j ∉ vs ∧ σ[j]? = some (some s)
  | [], h => ⟨by simp, h⟩
  | v :: vs, h => by
    unfold wipeD at h
    obtain ⟨h1, h2⟩ := set_none h
    obtain ⟨h3, h4⟩ := wipeD_on h2
    exact ⟨by simp [h1, h3], h4⟩
theorem wipe_off {σ : L2.St} {j : Nat} : ∀ {vs : List Nat}, j ∉ vs → (wipe σ vs)[j]? = σ[j]?
  | [], _ => rfl
  | v :: vs, h => by
    simp only [List.mem_cons, not_or] at h
    unfold wipe
    rw [List.getElem?_set_ne (Ne.symm h.1), wipe_off h.2]
theorem wipe_on {σ : L2.St} {j : Nat} : ∀ {vs : List Nat}, j ∈ vs → (wipe σ vs)[j]? = if j < σ.length then some none else none
  | [], h => nomatch h
  | v :: vs, h => by
    unfold wipe
    by_cases e : j = v
    · subst e
      rw [List.getElem?_set]
      simp [wipe_length]
    · rw [List.getElem?_set_ne (Ne.symm e)]
      exact wipe_on ((List.mem_cons.mp h).resolve_left e)
theorem wipe_eq {σ σ' : L2.St} {vs : List Nat} (l : σ'.length = σ.length) (h : ∀ j, j ∉ vs → σ'[j]? = σ[j]?) : wipe σ' vs = wipe σ vs := by
  apply List.ext_getElem?
  intro j
  by_cases hj : j ∈ vs
  · rw [wipe_on hj, wipe_on hj, l]
  · rw [wipe_off hj, wipe_off hj, h j hj]
theorem wipe_wipe {σ : L2.St} {vs : List Nat} : wipe (wipe σ vs) vs = wipe σ vs := wipe_eq (wipe_length σ vs) fun j hj => wipe_off hj
section
variable {A : Addr → Prop} {H0 : Hp} {st : StT} {b : Nat} {σd : SD} {fps : Nat → List Addr} {σ : L2.St} {H : Hp}
theorem InvD.wipes (I : InvD A H0 st b σd fps σ H) (vs : List Nat) : InvD A H0 st b (wipeD σd vs) fps (wipe σ vs) H :=
  ⟨by rw [wipe_length, wipeD_len]; exact I.len, I.ext, I.strm, (fun i s h => by
    obtain ⟨h1, h2⟩ := wipeD_on h
    obtain ⟨v, e1, e2⟩ := I.slot i s h2
    exact ⟨v, by rw [wipe_off h1]; exact e1, e2⟩), fun i s h => I.own i s (wipeD_on h).2, fun i s h => ⟨(I.fr i s (wipeD_on h).2).1, fun a ha => ⟨((I.fr i s (wipeD_on h).2).2 a ha).1, fun j s' hj h' => ((I.fr i s (wipeD_on h).2).2 a ha).2 j s' hj (wipeD_on h').2⟩⟩⟩
end
theorem ExA.snoc {rs : List R} {fs : List (List Addr)} {r : R} {f : List Addr} (l : rs.length = fs.length) {a : Addr} (h : ExA (rs ++ [r]) (fs ++ [f]) a) : ExA rs fs a ∨ a ∈ exs r.f f := by
  obtain ⟨p, hp, hz⟩ := h
  rw [List.zip_append l] at hp
  rcases List.mem_append.mp hp with hp | hp
  · exact .inl ⟨p, hp, hz⟩
  · have : p = (r, f) := by simpa using hp
    subst this
    exact .inr hz
theorem RsAll.flen {F : Fm} {Hs H : Hp} {rs : List R} {vs : List V} {fs : List (List Addr)} (h : RsAll F Hs H rs vs fs) : rs.length = fs.length := by
  induction h with
  | nil => rfl
  | cons r t d ih => simp [ih]
theorem ExA.mem {F : Fm} {Hs H : Hp} {rs : List R} {vs : List V} {fs : List (List Addr)} {a : Addr} (h : ExA rs fs a) : a ∈ fs.flatten := by
  obtain ⟨⟨r, f⟩, hp, hz⟩ := h
  exact List.mem_flatten.mpr ⟨f, (List.of_mem_zip hp).2, exs_sub hz⟩
theorem ExA.dom {F : Fm} {Hs H : Hp} {rs : List R} {vs : List V} {fs : List (List Addr)} (h : RsAll F Hs H rs vs fs) {a : Addr} (x : ExA rs fs a) : H a ≠ none := h.dom a (ExA.mem (F := F) (Hs := Hs) (H := H) (vs := vs) x)
/-- between the items of a comprehension: the frame F outside, its slots own wiped inside; the new list at D -/
abbrev Fm.blk (F : Fm) (ct own : List Nat) : Fm := F.at_ (wipeD (demote ct F.σd) own) F.fps (wipe F.σ own)
structure LcS (F : Fm) (H H1 : Hp) (D : Addr) (ct own : List Nat) (rs : List R) (fs : List (List Addr)) (b : Nat) (Hc : Hp) : Prop where
  inv : (F.blk ct own).Inv b Hc
  grow : ExtS F.st H1 Hc
  hD1 : H1 D = none
  hDf : D ∉ fs.flatten
  ex : ∀ a, ExA rs fs a → H1 a = none
  res : ∃ vs, Hc D = some (.lst vs) ∧ RsAll F H Hc rs vs fs
section
variable {F : Fm} {H H1 Hc : Hp} {D : Addr} {ct own : List Nat} {rs : List R} {fs : List (List Addr)} {b : Nat}
theorem LcS.start (I : F.Inv b H1) (hD : H1 D = none) : LcS F H H1 D ct own [] [] b (upd H1 D (.lst [])) :=
  ⟨((I.demote ct).wipes own).new hD, .new hD, hD, (fun z => nomatch z), (fun a ⟨_, z, _⟩ => nomatch z), [], upd_same, .nil⟩
theorem LcS.noSt {b0 : Nat} (S : LcS F H H1 D ct own rs fs b Hc) (I0 : F.Inv b0 H) (x01 : ExtS F.st H H1) : ¬ stC F.st D := fun c => by
  obtain ⟨us, hu, _⟩ := I0.strm.lst c
  have := x01.2 D S.hD1
  rw [hu] at this
  cases this
theorem LcS.more {b0 b4 : Nat} {H4 : Hp} (S : LcS F H H1 D ct own rs fs b Hc) (I0 : F.Inv b0 H) (x01 : ExtS F.st H H1) (s4 : StOk F.st b4 H4) (x4 : ExtS F.st Hc H4) : LcS F H H1 D ct own rs fs b4 H4 := by
  obtain ⟨vs, hD, ra⟩ := S.res
  exact ⟨S.inv.grow x4 s4, S.grow.trans x4, S.hD1, S.hDf, S.ex, vs, x4.1 D _ hD (S.noSt I0 x01) (fun _ c => by cases c), ra.grow I0 S.inv.strm x4⟩
theorem LcS.snoc {b0 : Nat} (I0 : F.Inv b0 H) (x01 : ExtS F.st H H1) (S : LcS F H H1 D ct own rs fs b Hc)
    {H4 : Hp} {b4 : Nat} {r : R} {y : V} {f : List Addr} (s4 : StOk F.st b4 H4) (x4 : ExtS F.st Hc H4) (rsF : F.Rs H r y H4 f) (new : ∀ a ∈ exs r.f f, Hc a = none)
    (np : ∀ a ∈ f, a ≠ D ∧ ¬ ExA rs fs a) :
    ∃ acc, H4 D = some (.lst acc) ∧ acc.length = rs.length ∧ LcS F H H1 D ct own (rs ++ [r]) (fs ++ [f]) b4 (upd H4 D (.lst (acc ++ [y]))) := by
  have ex := S.ex
  have hDf := S.hDf
  have nD := S.noSt I0 x01
  obtain ⟨vs, hD, ra⟩ := S.res
  have hD4 : H4 D = some (.lst vs) := x4.1 D _ hD nD (fun _ c => by cases c)
  have ra4 := ra.grow I0 S.inv.strm x4
  have hDf2 : D ∉ (fs ++ [f]).flatten := fun z => by
    rw [List.flatten_append, List.mem_append] at z
    rcases z with z | z
    · exact hDf z
    · simp at z
      exact (np D z).1 rfl
  have ra5 := (ra4.snoc rsF fun a ha x => (np a ha).2 x).poke (o := .lst (vs ++ [y])) (by rw [hD4]; simp) hDf2
  have slotD : ∀ j s, (F.blk ct own).σd[j]? = some (some s) → D ∉ F.fps j := fun j s h z => by
    obtain ⟨_, h2⟩ := wipeD_on h
    obtain ⟨s0, e0, _⟩ := demote_some h2
    exact I0.slotDom e0 z (x01.2 D S.hD1)
  refine ⟨vs, hD4, ra.len.symm, ?_, ?_, S.hD1, hDf2, fun a x => ?_, vs ++ [y], upd_same, ra5⟩
  · exact (S.inv.grow x4 s4).poke (I0.h0 (x01.2 D S.hD1)) (by rw [hD4]; simp) (by rw [hD4]; simp) (by rw [hD4]; simp [LamX.CodeO]) nD slotD
  · refine ⟨fun a o ea c nt => ?_, fun a ea => ?_⟩
    · have : a ≠ D := fun z => by subst z; rw [S.hD1] at ea; cases ea
      rw [upd_ne this]; exact x4.1 a o (S.grow.1 a o ea c nt) c nt
    · by_cases z : a = D
      · subst z; exact S.hD1
      · rw [upd_ne z] at ea; exact S.grow.2 a (x4.2 a ea)
  · rcases x.snoc ra.flen with x | x
    · exact ex a x
    · exact S.grow.2 a (new a x)
/-- the inner frame's slots: what is walked (fp), or a slot of the frame outside -/
def InS (F : Fm) (ct : List Nat) (fp : List Addr) (σd : SD) (fps : Nat → List Addr) : Prop := ∀ j s a, σd[j]? = some (some s) → a ∈ fps j → (a ∈ fp) ∨ (∃ s0, F.σd[j]? = some (some s0) ∧ fps j = F.fps j ∧ (j ∈ ct ∨ s = s0))
theorem inS_tg {sl : List Nat} {f fp : List Addr} {σd3 : SD} {fps3 : Nat → List Addr} {σ3 : L2.St} (hsl : ∀ j ∈ sl, j ∈ own) (sub : ∀ a ∈ f, a ∈ fp) (tg : TgR sl (F.blk ct own) f σd3 fps3 σ3) : InS F ct fp σd3 fps3 := fun j s a hs ha => by
  by_cases hj : j ∈ sl
  · exact .inl (sub a (tg.on j hj a ha))
  · obtain ⟨o1, o2, _⟩ := tg.off j hj
    rw [o1] at hs
    obtain ⟨h1, h2⟩ := wipeD_on hs
    obtain ⟨s0, e0, _, q⟩ := demote_some h2
    exact .inr ⟨s0, e0, o2, q.imp (·.1) (·.2)⟩
/-- a result of the inner frame, seen from outside -/
theorem inS_rs {fp : List Addr} {G : Fm} {H3 H4 : Hp} {r : R} {y : V} {f : List Addr} (x03 : ∀ a, H3 a = none → H a = none) (src : ∀ a ∈ fp, Src F.σd F.fps H ct a) (ins : InS F ct fp G.σd G.fps) (gst : G.st = F.st) (rs : G.Rs H3 r y H4 f) : F.Rs H (tnt ct r) y H4 f := by
  refine ⟨by rw [← gst]; exact rs.vr, fun a ha => ?_, rs.fr.1, fun a ha => x03 a (rs.fr.2 a ha)⟩
  rcases rs.src a ha with h | ⟨j, s, hs, hj, q⟩
  · exact .inl (x03 a h)
  · rcases ins j s a hs hj with h | ⟨s0, e0, ef, k⟩
    · exact (src a h).mono fun i hi => List.mem_append_right _ hi
    · rw [ef] at hj q
      refine .inr ⟨j, s0, e0, hj, fun w => ?_⟩
      rcases k with k | rfl
      · exact List.mem_append_right _ k
      · exact List.mem_append_left _ (q w)
theorem LcS.done {XR : XRel} {W : WX} {b0 : Nat} {Q : VK} {rs : List R} (I0 : F.Inv b0 H) {b1 : Nat} (I1 : F.Inv b1 H1) (x01 : ExtS F.st H H1) (S : LcS F H H1 D ct own (rs.map (tnt ct)) fs b Hc) (q : wpB b (lcEnd ct rs) (F.QP H Q) (F.EP XR W H)) : Q (.ref D) Hc := by
  obtain ⟨vs, hD, ra⟩ := S.res
  unfold lcEnd at q
  cases hd : datas rs with
  | none => rw [hd] at q; exact (show False from q).elim
  | some ds =>
    rw [hd] at q
    have q : wpB b (if ds.length ≤ 16777216 then M.ret (fin (.list ds) (tsOf rs ++ ct) (dispF rs)) else .fail) (F.QP H Q) (F.EP XR W H) := q
    split at q
    · have hds := ra.disp (ds := ds) (by rw [datas_tnt]; exact hd)
      have hDH : H D = none := x01.2 D S.hD1
      refine q (.ref D) Hc (D :: fs.flatten) (I1.grow S.grow S.inv.strm) (x01.trans S.grow) (RsOk.fin (.lst hD hds) (fun a ha => ?_) ?_ ?_)
      · rcases List.mem_cons.mp ha with rfl | ha
        · exact .inl hDH
        · refine (ra.src a ha).mono fun i hi => ?_
          simp only [tsOf, List.mem_flatMap, List.mem_map, tnt, List.mem_append] at hi ⊢
          obtain ⟨r', ⟨r, hr, rfl⟩, h⟩ := hi
          exact (List.mem_append.mp h).imp (fun h => ⟨r, hr, h⟩) id
      · unfold dispF
        split
        · rename_i hf
          exact List.nodup_cons.mpr ⟨S.hDf, ra.nodup (by rw [allF_tnt]; exact hf)⟩
        · exact ⟨D, _, rfl, S.hDf⟩
      · unfold dispF
        split
        · rename_i hf
          intro a ha
          rcases List.mem_cons.mp ha with rfl | ha
          · exact hDH
          · obtain ⟨g, hg, hag⟩ := List.mem_flatten.mp ha
            exact ra.freshAll (by rw [allF_tnt]; exact hf) g hg a hag
        · intro a ha
          have : a = D := by simpa [exs] using ha
          subst this
          exact hDH
    · exact q.elim
end
theorem wp_end {α : Type} {Q : Nat → α → Prop} : ∀ (m : M α) (b : Nat), wpB b m Q (fun _ _ => False) → ∃ b' a, Q b' a
  | .ret a, b, h => ⟨b, a, h⟩
  | .fail, b, h => h.elim
  | .exc x, b, h => h.elim
  | .draw n k, b, h => by
    obtain ⟨b', e, h0, h1, h⟩ := h
    exact wp_end (k 0) b' (h 0 h0)
theorem datas_len : ∀ {rs : List R} {ds : List PyData}, datas rs = some ds → rs.length = ds.length
  | [], ds, h => by cases h; rfl
  | r :: rs, ds, h => by
    have h : (match r.v with
      | .dat d => (datas rs).map (d :: ·)
      | _ => none) = some ds := h
    split at h
    · obtain ⟨ys, e1, rfl⟩ := Option.map_eq_some_iff.mp h
      simp [datas_len e1]
    · cases h
theorem lcEnd_len {ct : List Nat} {rs : List R} {b : Nat} {Q : Nat → R → Prop} {E : Nat → XV → Prop} (h : wpB b (lcEnd ct rs) Q E) : rs.length ≤ 16777216 := by
  unfold lcEnd at h
  cases hd : datas rs with
  | none => rw [hd] at h; exact (show False from h).elim
  | some ds =>
    rw [hd] at h
    have h : wpB b (if ds.length ≤ 16777216 then M.ret (fin (.list ds) (tsOf rs ++ ct) (dispF rs)) else .fail) Q E := h
    split at h
    · rename_i hl
      rw [datas_len hd]; exact hl
    · exact h.elim
abbrev W0 : WX := fun _ _ _ _ => False
theorem lc_te {XR : XRel} {W : WX} {Γ : FEnv} {own sl : List Nat} {i : SemI} {g : SemG} {t : SemT} {e : SemE} (hsl : ∀ j ∈ sl, j ∈ own) : ∀ σ H Q, TEv XR W Γ (eLc own i g t e) σ H Q → tLc (TIv XR W Γ i) (TGv sl g) (TTv XR W0 Γ t) (TEv XR W0 Γ e) own σ H Q := by
  rintro σ H Q ⟨F, b, rfl, I, q⟩
  unfold eLc at q
  refine ⟨F, b, rfl, I, wpB_mono (fun b1 z q1 J H1 I1 e1 ok => ?_) (fun _ _ z => z) _ _ ((wpB_bind _ _).mp q)⟩
  obtain ⟨items, ct⟩ := z
  obtain ⟨fp, src, ⟨Y, wk, hy⟩⟩ := ok
  intro D hD
  have own' : ∀ a ∈ fp, Own F.A F.H0 F.st a := fun a z => (src a z).1.own I
  have hk : ∀ {H : Hp}, ExtS F.st H1 H → Keeps fp H1 H := fun {H} x a o ea z nt => x.1 a o ea (fun c => by
    rcases z with z | ⟨vs, rfl⟩
    · exact (own' a z).2 c
    · obtain ⟨us, hu, w⟩ := I1.strm.lst c
      rw [ea] at hu; cases hu
      rcases w with ⟨_, w⟩ | ⟨_, w⟩ <;> cases w) nt
  have ap : ∀ {f : List Addr}, (∀ a ∈ f, a ∈ fp) → Apart (F.blk ct own).σd F.fps f := fun sub j s h a ha z => (src a (sub a z)).1.apart I (wipeD_on h).2 ha
  have q2 := noX_wp _ _ ((wpB_bind _ _).mp q1)
  refine lc_it wk (fun k Hc => ∃ rs fs b, LcS F H H1 D ct own (rs.map (tnt ct)) fs b Hc ∧ wpB b (lcGo g t e Γ (wipeD (demote ct F.σd) own) (items.drop k)) (fun b' rs' => wpB b' (lcEnd ct (rs ++ rs')) (F.QP H Q) (F.EP XR W H)) (fun _ _ => False)) ⟨[], [], b1, LcS.start I1 hD, q2⟩ (fun k Hc _ ⟨rs, fs, b, S, _⟩ => hk S.grow) ?_ ?_
  · rintro k x Hc H' hi ⟨rs, fs, b2, S, w⟩ hY
    obtain ⟨hH, d, f, ed, rd, sub⟩ := hy k Hc x H' hi (hk S.grow) hY
    have xc : ExtS F.st Hc H' := by
      rcases hH with rfl | ⟨T, o, hT, rfl⟩
      · exact .refl
      · exact .new hT
    have s' : StOk F.st b2 H' := by
      rcases hH with rfl | ⟨T, o, hT, rfl⟩
      · exact S.inv.strm
      · exact S.inv.strm.new hT
    have hdrop : items.drop k = d :: items.drop (k + 1) := by
      obtain ⟨hl, he⟩ := List.getElem?_eq_some_iff.mp ed
      rw [← he, List.getElem_cons_drop]
    rw [hdrop] at w
    refine ⟨F.blk ct own, b2, d, f, fun _ _ => False, rfl, S.inv.grow xc s', rd, fun a ha => own' a (sub a ha), ap sub, ?_⟩
    refine wpB_mono (fun b3 σd3 w3 fps3 σ3 I3 _ tg => ⟨?_, ?_⟩) (fun _ _ z => z) _ _ ((wpB_bind _ _).mp w)
    · refine wipe_eq (tg.len.trans (wipe_length ..)) fun j hj => ?_
      rw [(tg.off j fun z => hj (hsl j z)).2.2]
      exact wipe_off hj
    · have ins := inS_tg hsl sub tg
      refine ⟨(F.blk ct own).at_ σd3 fps3 σ3, b3, rfl, I3, wpB_mono (fun b4 c w4 H3 I4 e4 => ?_) (fun _ _ z => z.elim) _ _ ((wpB_bind _ _).mp w3)⟩
      have x3 : ExtS F.st Hc H3 := xc.trans e4
      cases c with
      | false => exact ⟨rs, fs, b4, S.more I e1 I4.strm x3, w4⟩
      | true =>
        dsimp only
        rw [if_pos rfl]
        refine ⟨(F.blk ct own).at_ σd3 fps3 σ3, b4, rfl, I4, wpB_mono (fun b5 r w5 y H4 f4 I5 e5 rs5 => ?_) (fun _ _ z => z.elim) _ _ ((wpB_bind _ _).mp w4)⟩
        have x03 : ExtS F.st H H3 := (e1.trans S.grow).trans x3
        have hDc : Hc D ≠ none := by obtain ⟨vs, h, _⟩ := S.res; rw [h]; simp
        have slot1 : ∀ {a j s}, σd3[j]? = some (some s) → a ∈ fps3 j → H1 a ≠ none := fun {a j s} hs hj => by
          rcases ins j s a hs hj with h | ⟨s0, e0, ef, _⟩
          · exact (src a h).2
          · rw [ef] at hj; exact I1.slotDom e0 hj
        obtain ⟨acc, h1, h2, S2⟩ := S.snoc I e1 I5.strm (x3.trans e5) (inS_rs (G := (F.blk ct own).at_ σd3 fps3 σ3) x03.2 (fun a ha => (src a ha).1) ins rfl rs5) (fun a ha => x3.2 a (rs5.fr.2 a ha)) fun a ha => by
          obtain ⟨vs, hv, ra⟩ := S.res
          rcases rs5.src a ha with h | ⟨j, s, hs, hj, _⟩
          · have := x3.2 a h
            exact ⟨fun z => hDc (z ▸ this), fun z => ExA.dom ra z this⟩
          · have := slot1 hs hj
            exact ⟨fun z => this (z ▸ hD), fun z => this (S.ex a z)⟩
        have w6 := (wpB_bind _ _).mp w5
        refine ⟨acc, h1, ?_, rs ++ [r], fs ++ [f4], b5, by rw [List.map_append]; exact S2, wpB_mono (fun b6 rs6 w7 => ?_) (fun _ _ z => z) _ _ w6⟩
        · obtain ⟨b6, rs6, w7⟩ := wp_end _ _ w6
          have hl := lcEnd_len (show wpB b6 (lcEnd ct (rs ++ r :: rs6)) (F.QP H Q) (F.EP XR W H) from w7)
          rw [h2, List.length_map, sizeLine_eq]
          simp at hl
          omega
        · have w7 : wpB b6 (lcEnd ct (rs ++ r :: rs6)) (F.QP H Q) (F.EP XR W H) := w7
          rw [List.append_assoc]
          exact w7
  · rintro Hc ⟨rs, fs, b2, S, w⟩
    rw [List.drop_length] at w
    have w : wpB b2 (lcEnd ct (rs ++ [])) (F.QP H Q) (F.EP XR W H) := w
    rw [List.append_nil] at w
    exact S.done I I1 e1 w
theorem se_lc {X : Cx} {XR : XRel} {W : WX} {Γ : FEnv} {own sl : List Nat} {i : SemI} {g : SemG} {t : SemT} {e : SemE} {x : Expr} (hsl : ∀ j ∈ sl, j ∈ own) (h : PE X x (tLc (TIv XR W Γ i) (TGv sl g) (TTv XR W0 Γ t) (TEv XR W0 Γ e) own)) : PE X x (TEv XR W Γ (eLc own i g t e)) := PE_imp h (lc_te hsl)
theorem st_yes {X : Cx} {XR : XRel} {W : WX} {Γ : FEnv} : PTs X [] (TTv XR W Γ tYesD) := ⟨fun pins s σ H Q I ⟨F, b, e, J, q⟩ => pts_nil.run pins s σ H Q I (q H J .refl)⟩
/-! ### two generators -/
def lcGo2 (vs1 : List Nat) (g : SemG) (t : SemT) (i1 : SemI) (g1 : SemG) (t1 : SemT) (e : SemE) (Γ : FEnv) (σ : SD) : List PyData → M (List R)
  | [] => .ret []
  | x :: xs => g x σ >>= fun σ1 => t Γ σ1 >>= fun c =>
    if c then i1 Γ σ1 >>= fun z => lcGo g1 t1 e Γ (wipeD (demote z.2 σ1) vs1) z.1 >>= fun rs => lcGo2 vs1 g t i1 g1 t1 e Γ σ xs >>= fun rs' => .ret (rs.map (tnt z.2) ++ rs')
    else lcGo2 vs1 g t i1 g1 t1 e Γ σ xs
def eLc2 (own vs1 : List Nat) (i : SemI) (g : SemG) (t : SemT) (i1 : SemI) (g1 : SemG) (t1 : SemT) (e : SemE) : SemE := fun Γ σ =>
  i Γ σ >>= fun z => noX (lcGo2 vs1 g t i1 g1 t1 e Γ (wipeD (demote z.2 σ) own) z.1) >>= fun rs => lcEnd z.2 rs
theorem walk_it {J : It} {n : Nat} {G : Hp → Prop} {Y : Nat → Hp → V → Hp → Prop} (w : Walk J n G Y) {Hs : Hp} {Qd : Hp → Prop} {Stp : (Hp → Prop) → V → Hp → Prop} (Pv : Nat → Hp → Prop) (h0 : Pv 0 Hs) (hG : ∀ i H, i ≤ n → Pv i H → G H)
    (hs : ∀ i x H H', i < n → Pv i H → Y i H x H' → Stp (Pv (i + 1)) x H') (hd : ∀ H, Pv n H → Qd H) :
    ∃ W : Nat → Nat → Hp → Prop, (∃ m, W 0 m Hs) ∧ ∀ i m H, W i m H → (J.stop i H ∧ Qd H) ∨ (J.go i H ∧ ∃ Nx : Hp → Prop, (∀ H', Nx H' → ∃ m', m' < m ∧ W (i + 1) m' H') ∧ ∀ x H', J.yld i H x H' → Stp Nx x H') := by
  refine ⟨fun i m H => m = n - i ∧ i ≤ n ∧ Pv i H, ⟨n, by simp, Nat.zero_le _, h0⟩, ?_⟩
  rintro i m H ⟨rfl, hi, p⟩
  have q := hG i H hi p
  by_cases hlt : i < n
  · refine .inr ⟨w.goes i H hlt q, Pv (i + 1), fun H' p' => ⟨n - (i + 1), by omega, rfl, hlt, p'⟩, fun x H' y => hs i x H H' hlt p (w.yields i H x H' hlt q y)⟩
  · have e : i = n := by omega
    subst e
    exact .inl ⟨w.stops H q, hd H p⟩
theorem drop_at {items : List PyData} {k : Nat} {d : PyData} (ed : items[k]? = some d) : items.drop k = d :: items.drop (k + 1) := by
  obtain ⟨hl, he⟩ := List.getElem?_eq_some_iff.mp ed
  rw [← he, List.getElem_cons_drop]
theorem grow1 {st : StT} {b : Nat} {Hc H' : Hp} (hH : H' = Hc ∨ ∃ T o, Hc T = none ∧ H' = upd Hc T o) (s : StOk st b Hc) : ExtS st Hc H' ∧ StOk st b H' := by
  rcases hH with rfl | ⟨T, o, hT, rfl⟩
  · exact ⟨.refl, s⟩
  · exact ⟨.new hT, s.new hT⟩
/-- what is walked stays -/
theorem keeps_of {st : StT} {b : Nat} {H1 H : Hp} {fp : List Addr} (n : ∀ a ∈ fp, ¬ stC st a) (s : StOk st b H1) (x : ExtS st H1 H) : Keeps fp H1 H := fun a o ea z nt => x.1 a o ea (fun c => by
  rcases z with z | ⟨vs, rfl⟩
  · exact n a z c
  · obtain ⟨us, hu, w⟩ := s.lst c
    rw [ea] at hu; cases hu
    rcases w with ⟨_, w⟩ | ⟨_, w⟩ <;> cases w) nt
theorem lc_te2 {XR : XRel} {W : WX} {Γ : FEnv} {own vs1 sl sl1 : List Nat} {i i1 : SemI} {g g1 : SemG} {t t1 : SemT} {e : SemE} (hsl : ∀ j ∈ sl, j ∈ own) (hsl1 : ∀ j ∈ sl1, j ∈ vs1) : ∀ σ H Q, TEv XR W Γ (eLc2 own vs1 i g t i1 g1 t1 e) σ H Q →
    tLc2 (TIv XR W Γ i) (TGv sl g) (TTv XR W0 Γ t) (TIv XR W0 Γ i1) (TGv sl1 g1) (TTv XR W0 Γ t1) (TEv XR W0 Γ e) own vs1 σ H Q := by
  rintro σ H Q ⟨F, b, rfl, I, q⟩
  unfold eLc2 at q
  refine ⟨F, b, rfl, I, wpB_mono (fun b1 z q1 J H1 I1 e1 ok => ?_) (fun _ _ z => z) _ _ ((wpB_bind _ _).mp q)⟩
  obtain ⟨items, ct⟩ := z
  obtain ⟨fp, src, ⟨Y, wk, hy⟩⟩ := ok
  intro D hD
  have own' : ∀ a ∈ fp, Own F.A F.H0 F.st a := fun a z => (src a z).1.own I
  have hk : ∀ {H : Hp}, ExtS F.st H1 H → Keeps fp H1 H := fun {H} x => keeps_of (fun a z => (own' a z).2) I1.strm x
  have ap : ∀ {f : List Addr}, (∀ a ∈ f, a ∈ fp) → Apart (F.blk ct own).σd F.fps f := fun sub j s h a ha z => (src a (sub a z)).1.apart I (wipeD_on h).2 ha
  have q2 := noX_wp _ _ ((wpB_bind _ _).mp q1)
  let σw := wipeD (demote ct F.σd) own
  refine walk_it wk (fun k Hc => ∃ rs fs b, LcS F H H1 D ct own (rs.map (tnt ct)) fs b Hc ∧ wpB b (lcGo2 vs1 g t i1 g1 t1 e Γ σw (items.drop k)) (fun b' rs' => wpB b' (lcEnd ct (rs ++ rs')) (F.QP H Q) (F.EP XR W H)) (fun _ _ => False)) ⟨[], [], b1, LcS.start I1 hD, q2⟩ (fun k Hc _ ⟨rs, fs, b, S, _⟩ => hk S.grow) ?_ ?_
  · rintro k x Hc H' hi ⟨rs, fs, b2, S, w⟩ hY
    obtain ⟨hH, d, f, ed, rd, sub⟩ := hy k Hc x H' hi (hk S.grow) hY
    obtain ⟨xc, s'⟩ := grow1 hH S.inv.strm
    rw [drop_at ed] at w
    refine ⟨F.blk ct own, b2, d, f, fun _ _ => False, rfl, S.inv.grow xc s', rd, fun a ha => own' a (sub a ha), ap sub, ?_⟩
    refine wpB_mono (fun b3 σd3 w3 fps3 σ3 I3 _ tg => ⟨?_, ?_⟩) (fun _ _ z => z) _ _ ((wpB_bind _ _).mp w)
    · refine wipe_eq (tg.len.trans (wipe_length ..)) fun j hj => ?_
      rw [(tg.off j fun z => hj (hsl j z)).2.2]
      exact wipe_off hj
    · have ins := inS_tg hsl sub tg
      let G2 : Fm := (F.blk ct own).at_ σd3 fps3 σ3
      have I3 : G2.Inv b3 H' := I3
      refine ⟨G2, b3, rfl, I3, wpB_mono (fun b4 c w4 H3 I4 e4 => ?_) (fun _ _ z => z.elim) _ _ ((wpB_bind _ _).mp w3)⟩
      have x3 : ExtS F.st Hc H3 := xc.trans e4
      have S3 := S.more I e1 I4.strm x3
      cases c with
      | false => exact ⟨rs, fs, b4, S3, w4⟩
      | true =>
        dsimp only
        rw [if_pos rfl]
        have slot1 : ∀ {a j s}, σd3[j]? = some (some s) → a ∈ fps3 j → H1 a ≠ none := fun {a j s} hs hj => by
          rcases ins j s a hs hj with h | ⟨s0, e0, ef, _⟩
          · exact (src a h).2
          · rw [ef] at hj; exact I1.slotDom e0 hj
        refine ⟨G2, b4, rfl, I4, wpB_mono (fun b5 z w5 J1 Ha Ia ea oka => ?_) (fun _ _ z => z.elim) _ _ ((wpB_bind _ _).mp w4)⟩
        obtain ⟨items1, ct1⟩ := z
        obtain ⟨fp1, src1, ⟨Y1, wk1, hy1⟩⟩ := oka
        have own1 : ∀ a ∈ fp1, Own F.A F.H0 F.st a := fun a z => (src1 a z).1.own I4
        have ap1 : ∀ {f : List Addr}, (∀ a ∈ f, a ∈ fp1) → Apart (G2.blk ct1 vs1).σd G2.fps f := fun sub j s h a ha z => (src1 a (sub a z)).1.apart I4 (wipeD_on h).2 ha
        have Sa := S3.more I e1 Ia.strm ea
        have nD := S.noSt I e1
        have fp1D : ∀ a ∈ fp1, a ≠ D ∧ ¬ ExA (rs.map (tnt ct)) fs a := fun a ha => by
          obtain ⟨vs, hv, ra⟩ := S3.res
          rcases (src1 a ha).1 with h | ⟨j, s, hs, hj, _⟩
          · exact ⟨(fun z => by subst z; rw [hv] at h; cases h), fun z => ExA.dom ra z h⟩
          · have := slot1 hs hj
            exact ⟨fun z => this (z ▸ hD), fun z => this (S.ex a z)⟩
        have w6 := (wpB_bind _ _).mp w5
        let Kt : List R → Nat → List R → Prop := fun acc b' rn => wpB b' (lcGo2 vs1 g t i1 g1 t1 e Γ σw (items.drop (k + 1)) >>= fun rs' => M.ret (rn.map (tnt ct1) ++ rs')) (fun b' rs' => wpB b' (lcEnd ct (acc ++ rs')) (F.QP H Q) (F.EP XR W H)) (fun _ _ => False)
        have w6 : wpB b5 (lcGo g1 t1 e Γ (wipeD (demote ct1 σd3) vs1) items1) (fun b' rn => Kt rs b' rn) (fun _ _ => False) := w6
        refine walk_it wk1 (fun m Hd => ∃ rn fn b, LcS F H H1 D ct own ((rs ++ rn.map (tnt ct1)).map (tnt ct)) fn b Hd ∧ (G2.blk ct1 vs1).Inv b Hd ∧ Keeps fp1 Ha Hd ∧ (∀ a, Hd a = none → Ha a = none) ∧ (∀ a ∈ fp1, ¬ ExA ((rs ++ rn.map (tnt ct1)).map (tnt ct)) fn a) ∧
          wpB b (lcGo g1 t1 e Γ (wipeD (demote ct1 σd3) vs1) (items1.drop m)) (fun b' rn' => Kt rs b' (rn ++ rn')) (fun _ _ => False)) ⟨[], fs, b5, by simpa using Sa, (Ia.demote ct1).wipes vs1, fun a o e _ _ => e, fun a e => e, fun a ha => by simpa using (fp1D a ha).2, w6⟩ (fun m Hd _ ⟨rn, fn, b, _, _, kp, _⟩ => kp) ?_ ?_
        · rintro m x Hd H' hi ⟨rn, fn, b6, Sd, Id, kp, mono, nx, w⟩ hY
          obtain ⟨hH, d1, f1, ed1, rd1, sub1⟩ := hy1 m Hd x H' hi kp hY
          obtain ⟨xd, s'⟩ := grow1 hH Sd.inv.strm
          rw [drop_at ed1] at w
          refine ⟨G2.blk ct1 vs1, b6, d1, f1, fun _ _ => False, rfl, Id.grow xd s', rd1, fun a ha => own1 a (sub1 a ha), ap1 sub1, ?_⟩
          refine wpB_mono (fun b7 σd5 w7 fps5 σ5 I5 _ tg1 => ⟨?_, ?_⟩) (fun _ _ z => z) _ _ ((wpB_bind _ _).mp w)
          · refine wipe_eq (tg1.len.trans (wipe_length ..)) fun j hj => ?_
            rw [(tg1.off j fun z => hj (hsl1 j z)).2.2]
            exact wipe_off hj
          · have ins1 := inS_tg hsl1 sub1 tg1
            refine ⟨(G2.blk ct1 vs1).at_ σd5 fps5 σ5, b7, rfl, I5, wpB_mono (fun b8 c w8 H6 I6 e6 => ?_) (fun _ _ z => z.elim) _ _ ((wpB_bind _ _).mp w7)⟩
            have x6 : ExtS F.st Hd H6 := xd.trans e6
            have kp6 : ∀ {H : Hp}, ExtS F.st Hd H → Keeps fp1 Ha H := fun {H} x a o ea z nt => x.1 a o (kp a o ea z nt) (fun c => by
              rcases z with z | ⟨vs, rfl⟩
              · exact (own1 a z).2 c
              · obtain ⟨us, hu, w⟩ := Ia.strm.lst c
                rw [ea] at hu; cases hu
                rcases w with ⟨_, w⟩ | ⟨_, w⟩ <;> cases w) nt
            cases c with
            | false => exact ⟨rn, fn, b8, Sd.more I e1 I6.strm x6, Id.grow x6 I6.strm, kp6 x6, fun a ea => mono a (x6.2 a ea), nx, w8⟩
            | true =>
              dsimp only
              rw [if_pos rfl]
              refine ⟨(G2.blk ct1 vs1).at_ σd5 fps5 σ5, b8, rfl, I6, wpB_mono (fun b9 r w9 y H7 f7 I7 e7 rs7 => ?_) (fun _ _ z => z.elim) _ _ ((wpB_bind _ _).mp w8)⟩
              have x7 : ExtS F.st Hd H7 := x6.trans e7
              have m63 : ∀ a, H6 a = none → H3 a = none := fun a h => ea.2 a (mono a (x6.2 a h))
              have rsG : G2.Rs H3 (tnt ct1 r) y H7 f7 := inS_rs (F := G2) (G := (G2.blk ct1 vs1).at_ σd5 fps5 σ5) m63 (fun a ha => (src1 a ha).1) ins1 rfl rs7
              have rsF : F.Rs H (tnt ct (tnt ct1 r)) y H7 f7 := inS_rs (F := F) (G := G2) ((e1.trans S.grow).trans x3).2 (fun a ha => (src a ha).1) ins rfl rsG
              have hDd : Hd D ≠ none := by obtain ⟨vs, h, _⟩ := Sd.res; rw [h]; simp
              obtain ⟨acc, h1, h2, S2⟩ := Sd.snoc I e1 I7.strm x7 rsF (fun a ha => x6.2 a (rs7.fr.2 a ha)) fun a ha => by
                obtain ⟨vs, hv, ra⟩ := Sd.res
                rcases rs7.src a ha with h | ⟨j, s, hs, hj, _⟩
                · have := x6.2 a h
                  exact ⟨fun z => hDd (z ▸ this), fun z => ExA.dom ra z this⟩
                · rcases ins1 j s a hs hj with h | ⟨s0, e0, ef, _⟩
                  · exact ⟨(fp1D a h).1, nx a h⟩
                  · have hj' : a ∈ fps5 j := hj
                    rw [ef] at hj'
                    have := slot1 e0 hj'
                    exact ⟨fun z => this (z ▸ hD), fun z => this (Sd.ex a z)⟩
              have w10 := (wpB_bind _ _).mp w9
              have slotD : ∀ j s, (G2.blk ct1 vs1).σd[j]? = some (some s) → D ∉ G2.fps j := fun j s h z => by
                obtain ⟨s0, e0, _⟩ := demote_some (wipeD_on h).2
                exact slot1 e0 z hD
              have hD7 : H7 D = some (.lst acc) := h1
              have hm : (rs ++ (rn ++ [r]).map (tnt ct1)).map (tnt ct) = (rs ++ rn.map (tnt ct1)).map (tnt ct) ++ [tnt ct (tnt ct1 r)] := by simp
              refine ⟨acc, h1, ?_, rn ++ [r], fn ++ [f7], b9, by rw [hm]; exact S2, (Id.grow x7 I7.strm).poke (I.h0 (e1.2 D hD)) (by rw [hD7]; simp) (by rw [hD7]; simp) (by rw [hD7]; simp [LamX.CodeO]) nD slotD, fun a o ea z nt => ?_, fun a ea => ?_, fun a ha z => ?_, wpB_mono (fun b11 rs11 w11 => ?_) (fun _ _ z => z) _ _ w10⟩
              · obtain ⟨b11, rs11, w11⟩ := wp_end _ _ w10
                have w11 : Kt rs b11 (rn ++ r :: rs11) := w11
                obtain ⟨b12, rs12, w12⟩ := wp_end _ _ ((wpB_bind _ _).mp w11)
                have hl := lcEnd_len (show wpB b12 (lcEnd ct (rs ++ ((rn ++ r :: rs11).map (tnt ct1) ++ rs12))) (F.QP H Q) (F.EP XR W H) from w12)
                rw [h2, List.length_map, sizeLine_eq]
                simp at hl ⊢
                omega
              · have : a ≠ D := fun c => by
                  subst c
                  rcases z with z | ⟨us, rfl⟩
                  · exact (fp1D a z).1 rfl
                  · have := kp6 x7 a _ ea (.inr ⟨us, rfl⟩) nt
                    rw [hD7] at this; cases this
                rw [upd_ne this]; exact kp6 x7 a o ea z nt
              · by_cases z : a = D
                · subst z; rw [upd_same] at ea; cases ea
                · rw [upd_ne z] at ea; exact mono a (x7.2 a ea)
              · rw [hm] at z
                obtain ⟨vs, hv, ra⟩ := Sd.res
                rcases z.snoc ra.flen with z | z
                · exact nx a ha z
                · exact (src1 a ha).2 (mono a (x6.2 a (rs7.fr.2 a z)))
              · have w11 : Kt rs b11 (rn ++ r :: rs11) := w11
                rw [List.append_assoc]
                exact w11
        · rintro Hd ⟨rn, fn, b6, Sd, Id, kp, mono, nx, w⟩
          rw [List.drop_length] at w
          have w : Kt rs b6 (rn ++ []) := w
          rw [List.append_nil] at w
          refine ⟨rs ++ rn.map (tnt ct1), fn, b6, Sd, wpB_mono (fun b' rs' z => ?_) (fun _ _ z => z) _ _ ((wpB_bind _ _).mp w)⟩
          have z : wpB b' (lcEnd ct (rs ++ (rn.map (tnt ct1) ++ rs'))) (F.QP H Q) (F.EP XR W H) := z
          rw [List.append_assoc]
          exact z
  · rintro Hc ⟨rs, fs, b2, S, w⟩
    rw [List.drop_length] at w
    have w : wpB b2 (lcEnd ct (rs ++ [])) (F.QP H Q) (F.EP XR W H) := w
    rw [List.append_nil] at w
    exact S.done I I1 e1 w
end DD
set_option Elab.async false
set_option linter.all false
set_option maxRecDepth 100000
set_option maxHeartbeats 4000000
/-! DS14: x[i] = e; a list within a list of one's own. -/
namespace DD
open PySem PySem.Spec PyProof.Rows L2 RZ
/-- x[k] = v -/
def putK (i : Nat) (σ : SD) (r k : R) : M Out := match σ[i]?, r.v, k.v with
  | some (some ⟨.dat (.list xs), m⟩), .dat d, .dat (.int j) => if m = .no ∨ i ∈ r.t then .fail else
    (match ixD xs.length j with
    | none => .fail
    | some n => .ret (.nx ((demote r.t σ).set i (some ⟨.dat (.list (xs.set n d)), newM m r.f⟩))))
  | _, _, _ => .fail
def sPut (i : Nat) (ek ev : SemE) : SemS := fun Γ σ => if ownL σ i then ev Γ σ >>= fun r => ek Γ σ >>= fun k => putK i σ r k else .fail
/-- z = abs(x[c].pop(k)), x[c] without cells within -/
def popInK (z i c : Nat) (σ : SD) (r : R) : M Out := match σ[i]?, r.v with
  | some (some ⟨.dat (.list xs), .all⟩), .dat (.int k) => (match xs[c]? with
    | some (.list ys) => if purL ys = false ∨ z = i ∨ small62 k = false then .fail else (match ixD ys.length k with
      | none => .fail
      | some n => (match ys[n]? with
        | some (.int w) => .ret (.nx ((σ.set i (some ⟨.dat (.list (xs.set c (.list (ys.eraseIdx n)))), .all⟩)).set z (some ⟨.dat (.int (if w < 0 then -w else w)), .all⟩)))
        | _ => .fail))
    | _ => .fail)
  | _, _ => .fail
def ownIn (σ : SD) (i c : Nat) : Bool := match σ[i]? with
  | some (some ⟨.dat (.list xs), .all⟩) => (match xs[c]? with
    | some (.list _) => true
    | _ => false)
  | _ => false
def sAbsPopIn (z i c : Nat) (e : SemE) : SemS := fun Γ σ => if ownIn σ i c then e Γ σ >>= popInK z i c σ else .fail
section
variable {X : Cx} {XR : XRel} {W : WX} {Γ : FEnv}
theorem RdL.cutN {H : Hp} {xs : List PyData} {vs : List V} {g : List Addr} (rd : RdL H xs vs g) {n : Nat} {d : PyData} (hn : xs[n]? = some d) :
    ∃ v1 v v2 g1 f g2, vs = v1 ++ v :: v2 ∧ v1.length = n ∧ g = g1 ++ (f ++ g2) ∧ RdL H (xs.take n) v1 g1 ∧ Rd H d v f ∧ RdL H (xs.drop (n + 1)) v2 g2 := by
  have hys : xs = xs.take n ++ d :: xs.drop (n + 1) := by
    obtain ⟨hl, he⟩ := List.getElem?_eq_some_iff.mp hn
    rw [← he, List.getElem_cons_drop, List.take_append_drop]
  rw [hys] at rd
  obtain ⟨v1, v2, g1, g2, ev, eg, r1, r2⟩ := RdL.split rd
  cases r2 with
  | @cons _ v _ vt f g3 rx rt =>
    refine ⟨v1, v, vt, g1, f, g3, ev, ?_, eg, r1, rx, rt⟩
    rw [← r1.length, List.length_take]
    have := (List.getElem?_eq_some_iff.mp hn).1
    omega
theorem set_cut {α : Type} {xs : List α} {n : Nat} (h : n < xs.length) (d : α) : xs.set n d = xs.take n ++ d :: xs.drop (n + 1) := List.set_eq_take_append_cons_drop .. |>.trans (if_pos h)
theorem ss_put {s : Stmt} {i : Nat} {tk tv : SemE} (h : PS X s (tAsg (TEv XR W Γ tv) (gSub (tVar i) (TEv XR W Γ tk) rSetL))) : PS X s (TSv XR W Γ (sPut i tk tv)) := PS_imp h fun D σ H ⟨F, b, e, I, q⟩ => by
  subst e
  unfold sPut at q
  cases ho : ownL F.σd i with
  | false => rw [ho] at q; exact (show False from q).elim
  | true =>
    rw [ho, if_pos rfl] at q
    obtain ⟨xs, m, hs, hm⟩ := ownL_get ho
    refine ts_bindE I q fun b1 r v H1 f1 q1 I1 x1 rs1 => ?_
    obtain ⟨p, vs, g, e1, e2, rd, ef, h0, hst, hpg, hp, ha⟩ := own_list I1 hs hm
    refine ⟨_, e1, ?_⟩
    refine ts_bindE I1 q1 fun b2 rk vk H2 f2 q2 I2 x2 rs2 => ?_
    obtain ⟨p', vs', g', e1', e2', rd', ef', h0', hst', hpg', hp', ha'⟩ := own_list I2 hs hm
    rw [e1] at e1'
    cases e1'
    have rs1' := rs1.grow I I1.strm x2
    unfold putK at q2
    rw [hs] at q2
    cases hv : r.v with
    | dat d =>
      cases hk : rk.v with
      | dat dk =>
        rw [hv, hk] at q2
        cases dk with
        | int j =>
          have q2 : wpB b2 (if m = .no ∨ i ∈ r.t then M.fail else
            (match ixD xs.length j with
            | none => .fail
            | some n => .ret (.nx ((demote r.t F.σd).set i (some ⟨.dat (.list (xs.set n d)), newM m r.f⟩))))) (F.OQ D) (F.ES XR W) := q2
          split at q2
          · exact q2.elim
          · rename_i hc
            simp only [not_or] at hc
            obtain ⟨_, hir⟩ := hc
            cases hn : ixD xs.length j with
            | none => rw [hn] at q2; exact (show False from q2).elim
            | some n =>
              rw [hn] at q2
              dsimp only at q2
              have hnl := (seq_ixD hn).2
              obtain ⟨v1, v0, v2, g1, f0, g2, ev, l1, eg, r1, rx, r2⟩ := rd'.cutN (List.getElem?_eq_getElem hnl)
              have rdv := rs1'.vr.nil hv
              have hki := (rs2.vr.nil hk).int_inv
              subst hki
              have sub : ∀ a ∈ g1 ++ g2, a ∈ g' := fun a z => by
                rw [eg]; simp only [List.mem_append] at z ⊢
                exact z.elim .inl fun z => .inr (.inr z)
              have rdn : RdL H2 (xs.set n d) (vs'.set n v) (g1 ++ (f1 ++ g2)) := by
                rw [set_cut hnl]
                have : vs'.set n v = v1 ++ v :: v2 := by rw [ev, ← l1]; simp
                rw [this]
                exact r1.append (.cons rdv r2)
              have hmem : ∀ {a : Addr}, a ∈ g1 ++ (f1 ++ g2) → a ∈ g1 ++ g2 ∨ a ∈ f1 := fun {a} z => by
                simp only [List.mem_append] at z ⊢
                rcases z with z | z | z
                · exact .inl (.inl z)
                · exact .inr z
                · exact .inl (.inr z)
              have hpx : p ∈ exs m (F.fps i) := by
                rw [ef]
                cases m with
                | no => exact absurd rfl hm
                | top => simp [exs]
                | all => simp [exs]
              have J := InvD.writeL (m' := newM m r.f) I2 hs e1 e2' ef' h0' hst' hp' (demote_len r.t F.σd) (fun k s hk h => let ⟨s0, e0, ev, w⟩ := demote_some h; ⟨s0, e0, ev, w.elim (fun w => .inr w.2) fun w => .inl w.2⟩) rdn
                (fun z => (hmem z).elim (fun z => hpg' (sub _ z)) fun z => rs1.apart I i _ hir hs p hpx z)
                (fun a z => (hmem z).elim (fun z => I.own i _ hs a (by rw [ef']; exact List.mem_cons_of_mem _ (sub _ z))) (rs1.own I a))
                (fun k s hk h a z w => (hmem w).elim (fun w => by
                    obtain ⟨s0, e0, ev, q⟩ := demote_some h
                    rcases q with ⟨_, q⟩ | ⟨_, rfl⟩
                    · rw [q] at z; cases z
                    · exact ((I.fr k _ e0).2 a z).2 i _ (Ne.symm hk) hs (by rw [ef']; exact List.mem_cons_of_mem _ (sub _ w)))
                  fun w => (rs1.src a w).apart I h z)
                (by
                  rcases newM_ne (m := m) (f := r.f) with c | ⟨hma, hra⟩
                  · exact .inl c
                  · subst hma
                    obtain ⟨n1, hh1⟩ := ha' rfl
                    have fr := rs1.fr
                    rw [hra] at fr
                    rw [eg] at n1
                    obtain ⟨a1, a2, a3⟩ := List.nodup_append.mp n1
                    obtain ⟨a4, a5, a6⟩ := List.nodup_append.mp a2
                    have dj : ∀ a ∈ f1, a ∉ g1 ++ g2 := fun a x y => I.slotDom hs (by rw [ef']; exact List.mem_cons_of_mem _ (sub a y)) (fr.2 a x)
                    refine .inr ⟨List.nodup_append.mpr ⟨a1, List.nodup_append.mpr ⟨fr.1, a5, fun a x b y e => ?_⟩, fun a x b y e => ?_⟩, fun a z => ?_⟩
                    · subst e; exact dj a x (List.mem_append_right _ y)
                    · subst e
                      rcases List.mem_append.mp y with y | y
                      · exact dj a y (List.mem_append_left _ x)
                      · exact a3 a x a (List.mem_append_right _ y) rfl
                    · rcases hmem z with z | z
                      · exact ⟨(hh1 a (sub a z)).1, fun k s hk h => let ⟨s0, e0, _⟩ := demote_some h; (hh1 a (sub a z)).2 k s0 hk e0⟩
                      · exact ⟨I.h0 (fr.2 a z), fun k s hk h w => let ⟨s0, e0, _⟩ := demote_some h; I.slotDom e0 w (fr.2 a z)⟩)
              refine ⟨p, vs', j, n, rfl, rfl, e2', ?_, q2 _ _ _ J⟩
              rw [← rd'.length, ← ixD_eq]; exact hn
        | _ => exact (show False from q2).elim
      | strm => rw [hv, hk] at q2; exact (show False from q2).elim
      | scr => rw [hv, hk] at q2; exact (show False from q2).elim
    | strm => rw [hv] at q2; exact (show False from q2).elim
    | scr => rw [hv] at q2; exact (show False from q2).elim
/-- a list without cells, within one's own list, is written -/
theorem InvD.writeN {F : Fm} {b : Nat} {H : Hp} {i p c : Nat} {xs ys ys' : List PyData} {q : Addr} {vs ws ws' : List V} {g : List Addr} (I : F.Inv b H) (hs : F.σd[i]? = some (some ⟨.dat (.list xs), .all⟩))
    (e1 : F.σ[i]? = some (some (.ref p))) (e2 : H p = some (.lst vs)) (rd : RdL H xs vs g) (ef : F.fps i = p :: g) (hpg : p ∉ g) (hc : xs[c]? = some (.list ys)) (hv : vs[c]? = some (.ref q)) (eq : H q = some (.lst ws)) (py : purL ys = true) (rd' : RdL H ys' ws' []) :
    InvD F.A F.H0 F.st b (F.σd.set i (some ⟨.dat (.list (xs.set c (.list ys'))), .all⟩)) F.fps F.σ (upd H q (.lst ws')) := by
  have fr := I.fr i _ hs
  obtain ⟨v1, v0, v2, g1, f0, g2, ev, l1, eg, r1, rx, r2⟩ := rd.cutN hc
  have hv0 : v0 = .ref q := by
    rw [ev, List.getElem?_append_right (by omega), l1] at hv
    simpa using hv
  subst hv0
  have hf0 : f0 = [q] := by
    cases rx with
    | lst e t => rw [RdL.pure t py]
  subst hf0
  have nd : (p :: g).Nodup := by have := fr.1; rw [ef] at this; exact this
  have hq : q ∈ F.fps i := by rw [ef, eg]; simp
  have hpq : p ≠ q := fun z => hpg (by rw [eg, z]; simp)
  have nd2 := (List.nodup_cons.mp nd).2
  rw [eg] at nd2
  obtain ⟨a1, a2, a3⟩ := List.nodup_append.mp nd2
  have hq1 : q ∉ g1 := fun z => a3 q z q (by simp) rfl
  have hq2 : q ∉ g2 := fun z => (List.nodup_cons.mp a2).1 z
  have kp : ∀ {fp : List Addr}, q ∉ fp → ∀ a u, H a = some u → (a ∈ fp ∨ ∃ vs, u = .tup vs) → upd H q (.lst ws') a = some u := fun {fp} hn a u e z => by
    have : a ≠ q := fun c => by
      subst c
      rcases z with z | ⟨us, rfl⟩
      · exact hn z
      · rw [eq] at e; cases e
    rw [upd_ne this]; exact e
  have hlen := (List.getElem?_eq_some_iff.mp hc).1
  have rdn : Rd (upd H q (.lst ws')) (.list (xs.set c (.list ys'))) (.ref p) (p :: g) := by
    refine .lst (by rw [upd_ne hpq]; exact e2) ?_
    rw [set_cut hlen, ev, eg]
    exact (r1.keep (kp hq1)).append (.cons (.lst upd_same (rd'.keep (kp (by simp)))) (r2.keep (kp hq2)))
  have K := ((I.wipe1 i).poke (p := q) (o := .lst ws') ((fr.2 q hq).1) (by rw [eq]; simp) (by rw [eq]; simp) (by rw [eq]; simp [LamX.CodeO]) ((I.own i _ hs q hq).2) fun j s h => by
    obtain ⟨hj, h⟩ := set_none h
    exact (fr.2 q hq).2 j s hj h).set (i := i) (x := .dat (.list (xs.set c (.list ys')))) (m := .all) (v := .ref p) (fp := p :: g) rdn (fun a ha => I.own i _ hs a (by rw [ef]; exact ha)) (fun j s hj h a ha z => by
      obtain ⟨_, h⟩ := set_none h
      exact ((I.fr j s h).2 a ha).2 i _ (Ne.symm hj) hs (by rw [ef]; exact z)) nd fun a ha => ⟨(fr.2 a (by rw [ef]; exact ha)).1, fun j s hj h => (fr.2 a (by rw [ef]; exact ha)).2 j s hj (set_none h).2⟩
  rw [set_self' e1, List.set_set] at K
  have : (fun j => if j = i then p :: g else F.fps j) = F.fps := by
    funext j
    by_cases hj : j = i
    · subst hj; rw [if_pos rfl, ef]
    · rw [if_neg hj]
  rw [this] at K
  exact K
def rAbsI : V → Hp → VK → Prop := fun x H Q => ∃ i, [x] = [V.int i] ∧ Q (.int (if i < 0 then -i else i)) H
theorem ss_absPopIn {s : Stmt} {z i c : Nat} {te : SemE} (h : PS X s (tAsg (tUn rAbsI (tBM X.K "list" rPopAt (tOp (rIxA X.K) (tVar i) (tC (.int (c : Int)))) (tCons (TEv XR W Γ te) tNil))) (gName z))) : PS X s (TSv XR W Γ (sAbsPopIn z i c te)) := PS_imp h fun D σ H ⟨F, b, e, I, q⟩ => by
  subst e
  unfold sAbsPopIn at q
  cases ho : ownIn F.σd i c with
  | false => rw [ho] at q; exact (show False from q).elim
  | true =>
    rw [ho, if_pos rfl] at q
    obtain ⟨xs, ys, hs, hc⟩ : ∃ xs ys, F.σd[i]? = some (some ⟨.dat (.list xs), .all⟩) ∧ xs[c]? = some (.list ys) := by
      unfold ownIn at ho
      split at ho
      · rename_i xs e
        split at ho
        · rename_i ys e2; exact ⟨xs, ys, e, e2⟩
        · cases ho
      · cases ho
    obtain ⟨p, vs, g, e1, e2, rd, ef, h0, hst, hpg, hp, ha⟩ := own_list I hs (by simp)
    have hlen := (List.getElem?_eq_some_iff.mp hc).1
    obtain ⟨v1, v0, v2, g1, f0, g2, ev, l1, eg, r1, rx, r2⟩ := rd.cutN hc
    have hv0 : vs[c]? = some v0 := by rw [ev, List.getElem?_append_right (by omega), l1]; simp
    refine ⟨_, e1, ?_⟩
    have hix : atI vs (c : Int) = some v0 := by
      unfold atI
      rw [← rd.length]
      unfold ixN
      rw [if_pos (by omega), if_pos (by omega)]
      simpa using hv0
    refine .inl (.inl ⟨p, vs, c, v0, rfl, rfl, SqL.of e2, hix, ?_⟩)
    cases rx with
    | @lst q0 _ ws gq eq0 rdq =>
    refine ⟨ty_list eq0, ?_⟩
    refine ts_bindE I q fun b1 r v H1 f1 q1 I1 x1 rs1 => ?_
    unfold popInK at q1
    rw [hs] at q1
    cases hv : r.v with
    | dat d =>
      rw [hv] at q1
      cases d with
      | int k =>
        dsimp only at q1
        rw [hc] at q1
        dsimp only at q1
        split at q1
        · exact q1.elim
        · rename_i hcc
          simp only [not_or, Bool.not_eq_false] at hcc
          obtain ⟨hpy, hzi, h62⟩ := hcc
          cases hk : ixD ys.length k with
          | none => rw [hk] at q1; exact (show False from q1).elim
          | some n =>
            rw [hk] at q1
            dsimp only at q1
            cases hd : ys[n]? with
            | none => rw [hd] at q1; exact (show False from q1).elim
            | some d =>
              rw [hd] at q1
              cases d with
              | int w =>
                dsimp only at q1
                obtain ⟨p', vs', g', e1', e2', rd', ef', h0', hst', hpg', hp', ha'⟩ := own_list I1 hs (by simp)
                rw [e1] at e1'
                cases e1'
                have ns : ∀ a ∈ F.fps i, ¬ stC F.st a := fun a z => (I.own i _ hs a z).2
                have e2'' := x1.1 p _ e2 hst (fun _ c => by cases c)
                rw [e2''] at e2'
                cases e2'
                have hq : q0 ∈ F.fps i := by rw [ef, eg]; simp
                have eq1 := x1.1 q0 _ eq0 (ns q0 hq) (fun _ c => by cases c)
                have hki := (rs1.vr.nil hv).int_inv
                subst hki
                obtain ⟨sk, hnl⟩ := seq_ixD hk
                obtain ⟨s1, s2⟩ := small62_iff.mp (by simpa using h62)
                have rdq0 := rdq
                have hgq := RdL.pure rdq hpy
                subst hgq
                have rdq1 : RdL H1 ys ws [] := rdq.keep2 fun a o e z nt => x1.1 a o e (fun cc => by
                  rcases z with z | ⟨us, rfl⟩
                  · cases z
                  · obtain ⟨us', hu, w⟩ := I.strm.lst cc
                    rw [e] at hu; cases hu
                    rcases w with ⟨_, w⟩ | ⟨_, w⟩ <;> cases w) nt
                obtain ⟨w1, w0, w2, k1, k0, k2, ew, lw, ek, rr1, rrx, rr2⟩ := rdq1.cutN hd
                obtain ⟨hk1, hk2⟩ := List.append_eq_nil_iff.mp ek.symm
                obtain ⟨hk3, hk4⟩ := List.append_eq_nil_iff.mp hk2
                subst hk1 hk3 hk4
                have hw0 := rrx.int_inv
                subst hw0
                have hyl : ys.length = ws.length := rdq1.length
                have hwn : ws[n]? = some (.int w) := by rw [ew, List.getElem?_append_right (by omega), lw]; simp
                rw [hyl] at sk
                have hws : ws.eraseIdx n = w1 ++ w2 := by
                  rw [ew, List.eraseIdx_append_of_length_le (by omega), lw]; simp
                have hye : ys.eraseIdx n = ys.take n ++ ys.drop (n + 1) := List.eraseIdx_eq_take_drop_succ ..
                have J := InvD.writeN (ys' := ys.eraseIdx n) (ws' := ws.eraseIdx n) I1 hs e1 e2'' rd' ef' hpg' hc hv0 eq1 hpy (by rw [hye, hws]; exact rr1.append rr2)
                refine ⟨q0, ws, k, n, .int w, rfl, rfl, eq1, by omega, by omega, sk, hwn, w, rfl, q1 (fun j => if j = z then [] else F.fps j) _ _ ?_⟩
                exact J.set (x := .dat (.int (if w < 0 then -w else w))) (m := .all) (.int _) (fun a z => nomatch z) (fun j s hj h a ha z => nomatch z) List.nodup_nil fun a z => nomatch z
              | _ => exact (show False from q1).elim
      | _ => exact (show False from q1).elim
    | strm => rw [hv] at q1; exact (show False from q1).elim
    | scr => rw [hv] at q1; exact (show False from q1).elim
end
end DD
set_option Elab.async false
set_option linter.all false
set_option maxRecDepth 100000
set_option maxHeartbeats 4000000
/-! DS15: sorted, index. -/
namespace DD
open PySem PySem.Spec PyProof.Rows L2 RZ
/-- the order of the places -/
def sortIx (ds : List PyData) : List Nat := (List.range ds.length).mergeSort (PySem.W.dataLe false fun i => ds.getD i .none)
def sortD (ds : List PyData) : List PyData := (sortIx ds).map fun i => ds.getD i .none
def tupN : PyData → Bool
  | .tuple (_ :: _) => true
  | _ => false
def othN : PyData → Bool
  | .none => false
  | .tuple _ => false
  | _ => true
def sortOk (ds : List PyData) : Bool := PyData.plainAll ds && (ds.all fun d => ds.all fun e => PySem.W.alike d e) && (ds.all tupN || ds.all othN) && (ds.all fun d => decide (d.depth ≤ 150))
def sortedK (x : R) : M R := match x.v with
  | .dat (.list xs) => if sortOk xs && decide (xs.length ≤ 16777216) then .ret (fin (.list (sortD xs)) x.t (subF x (.list xs))) else .fail
  | _ => .fail
def eSorted := eMon sortedK
def findE (d : PyData) : List PyData → Nat → Option Nat
  | [], _ => none
  | z :: zs, j => if PyData.eqv z d then some j else findE d zs (j + 1)
def indexK (ds : List PyData) (y : R) : M R := match y.v with
  | .dat d => if SeqAt.shaped (.list ds) && SeqAt.shaped d && PyData.plainAll ds && PyData.plain d then (match findE d ds 0 with
      | some j => .ret (rP (.int (j : Nat)))
      | none => .fail) else .fail
  | _ => .fail
def eIndex (a b : SemE) : SemE := fun Γ σ => a Γ σ >>= fun x => match x.v with
  | .dat (.list ds) => b Γ σ >>= indexK ds
  | _ => .fail
def rSortD (K : PySem.W.Frag) : List V → Hp → VK → Prop := fun vs H Q => ∃ a xs ds, vs = [.ref a] ∧ SqL K H a xs ∧ DpAll K H xs ds ∧ sortOk ds = true ∧ ds.length ≤ sizeLine ∧ ∀ p, H p = none → Q (.ref p) (upd H p (.lst ((sortIx ds).map fun i => xs.getD i .non)))
theorem sortOk_inv {ds : List PyData} (h : sortOk ds = true) : PyData.plainAll ds = true ∧ PySem.W.AllAlike ds ∧ PySem.W.Sortable ds ∧ ∀ d ∈ ds, d.depth ≤ 150 := by
  unfold sortOk at h
  simp only [Bool.and_eq_true, Bool.or_eq_true, List.all_eq_true, decide_eq_true_eq] at h
  obtain ⟨⟨⟨h1, h2⟩, h3⟩, h4⟩ := h
  refine ⟨h1, fun d hd e he => h2 d hd e he, ?_, h4⟩
  rcases h3 with h3 | h3
  · refine .inl fun d hd => ?_
    have := h3 d hd
    unfold tupN at this
    split at this
    · exact ⟨_, _, rfl⟩
    · cases this
  · refine .inr fun d hd => ?_
    have := h3 d hd
    unfold othN at this
    split at this
    · cases this
    · cases this
    · rename_i n1 n2
      exact ⟨n1, fun xs e => n2 xs e⟩
theorem sortIx_mem {ds : List PyData} {i : Nat} (h : i ∈ sortIx ds) : i < ds.length := by
  unfold sortIx at h
  have := (List.mergeSort_perm _ _).mem_iff.mp h
  simpa using this
section
variable {X : Cx} {XR : XRel} {W : WX} {Γ : FEnv}
theorem each_of_vals : ∀ {xs : List V} {us : List Value} (k : Nat) (ys : List V), Vals xs us → (∀ i, i < xs.length → ys[k + i]? = xs[i]?) → PySem.W.EachIs (fun u (i : Nat) => ∃ v, ys[i]? = some v ∧ RelV v u) us (List.range' k us.length)
  | [], _, k, ys, .nil, _ => .nil
  | x :: xs, _, k, ys, .cons r t, h => by
    rw [List.length_cons, List.range'_succ]
    refine .cons ⟨x, ?_, r⟩ (each_of_vals (k + 1) ys t fun i hi => ?_)
    · have := h 0 (by simp); simpa using this
    · have := h (i + 1) (by simpa using hi)
      rw [show k + 1 + i = k + (i + 1) by omega, this]
      simp
theorem each_reads {h : Heap} : ∀ {us : List Value} {ds : List PyData} {as : List Addr} (k : Nat) (es : List PyData), ReadsAll h us ds as → (∀ i, i < ds.length → es[k + i]? = ds[i]?) → PySem.W.EachIs (fun u (i : Nat) => ∃ as, Reads h u (es.getD i .none) as) us (List.range' k us.length)
  | _, _, _, k, es, .nil, _ => .nil
  | _, d :: ds, _, k, es, .cons r t, h => by
    rw [List.length_cons, List.range'_succ]
    refine .cons ?_ (each_reads (k + 1) es t fun i hi => ?_)
    · have := h 0 (by simp)
      have e : es.getD k .none = d := by
        rw [List.getD_eq_getElem?_getD]
        simp at this
        rw [this]
        rfl
      exact ⟨_, by rw [e]; exact r⟩
    · have := h (i + 1) (by simpa using hi)
      rw [show k + 1 + i = k + (i + 1) by omega, this]
      simp
theorem vals_of_each {ys : List V} : ∀ {us : List Value} {is : List Nat}, PySem.W.EachIs (fun u (i : Nat) => ∃ v, ys[i]? = some v ∧ RelV v u) us is → Vals (is.map fun i => ys.getD i .non) us
  | _, _, .nil => .nil
  | _, _, .cons ⟨v, e, r⟩ t => .cons (by dsimp only; rw [List.getD_eq_getElem?_getD, e]; exact r) (vals_of_each t)
theorem rall_len {h : Heap} : ∀ {us : List Value} {ds : List PyData} {as : List Addr}, ReadsAll h us ds as → us.length = ds.length
  | _, _, _, .nil => rfl
  | _, _, _, .cons _ t => by simp [rall_len t]
theorem cr_sortD (hu : X.A.units + 200 < cLine) : CallR X (.builtin "sorted") (rSortD X.K) := by
  intro pins s σ H vs us Q I r h
  obtain ⟨a, xs, ds, rfl, hs, hd, hok, hlen, q⟩ := h
  obtain ⟨its, rv, hl, hz⟩ := I.list hs
  rw [Vals.ref1 r]
  obtain ⟨h1, h2, h3, h4⟩ := sortOk_inv hok
  obtain ⟨as, hr⟩ := Dp.readsAll I ds xs its hd rv
  have hil := rall_len hr
  have hmap : (List.range ds.length).map (fun i => ds.getD i .none) = ds := by
    apply List.ext_getElem?
    intro i
    rw [List.getElem?_map]
    by_cases hi : i < ds.length
    · rw [List.getElem?_range hi]
      simp [hi]
    · rw [List.getElem?_eq_none (by simpa using hi), List.getElem?_eq_none (by omega)]; rfl
  have er : PySem.W.EachIs (fun u (i : Nat) => ∃ as, Reads s.heap u (ds.getD i .none) as) its (List.range ds.length) := by
    have := each_reads 0 ds hr (fun i _ => by simp)
    rw [hil, ← List.range_eq_range'] at this
    exact this
  have ev : PySem.W.EachIs (fun u (i : Nat) => ∃ v, xs[i]? = some v ∧ RelV v u) its (List.range ds.length) := by
    have := each_of_vals 0 xs rv (fun i _ => by simp)
    rw [hil, ← List.range_eq_range'] at this
    exact this
  refine PySem.W.sorted_data (enc := fun i => ds.getD i .none) (bs := List.range ds.length) hl.isList ev er (by rw [hmap]; exact h2) (by rw [hmap]; exact h3) (by rw [List.length_range]; exact hlen) (fun i hi => ?_) fun out hol hout => ?_
  · have hi : i < ds.length := by simpa using hi
    have : (ds.getD i .none).depth ≤ 150 := by
      rw [List.getD_eq_getElem?_getD, List.getElem?_eq_getElem hi]
      exact h4 _ (List.getElem_mem hi)
    show X.A.units + 2 + (ds.getD i .none).depth < cLine
    omega
  · have hv := vals_of_each hout
    obtain ⟨ep, he'⟩ := PyProof.Rows.sortedAll_at s.heap its out.toArray
    have hlen2 : ((sortIx ds).map fun i => xs.getD i V.non).length ≤ sizeLine := by
      rw [List.length_map]
      have : (sortIx ds).length = ds.length := by unfold sortIx; simp
      rw [this]; exact hlen
    exact ⟨.ref _, upd H (s.heap.objs.size + 1) (.lst ((sortIx ds).map fun i => xs.getD i .non)), I.laid (t' := s.toks) (fun _ _ => PyProof.Rows.sortedAll_old) (Nat.le_succ _) ⟨hlen2, out, ep, hv, he'⟩, rfl, q _ (I.hok.fresh (Nat.le_succ _))⟩
theorem findE_gen {d : PyData} : ∀ {zs : List PyData} {k j : Nat}, findE d zs k = some j → ∃ m z, j = k + m ∧ zs[m]? = some z ∧ PyData.eqv z d = true ∧ ∀ (n : Nat) (z' : PyData), n < m → zs[n]? = some z' → PyData.eqv z' d = false
  | [], _, _, h => by cases h
  | z :: zs, k, j, h => by
    unfold findE at h
    split at h
    · rename_i e
      cases h
      exact ⟨0, z, rfl, rfl, e, fun n z' hn => absurd hn (by omega)⟩
    · rename_i e
      obtain ⟨m, z1, rfl, h2, h3, h4⟩ := findE_gen h
      refine ⟨m + 1, z1, by omega, by simpa using h2, h3, fun n z' hn hz => ?_⟩
      cases n with
      | zero => simp at hz; subst hz; simpa using e
      | succ n => exact h4 n z' (by omega) (by simpa using hz)
theorem findE_spec {d : PyData} {ds : List PyData} {j : Nat} (h : findE d ds 0 = some j) : ∃ z, ds[j]? = some z ∧ PyData.eqv z d = true ∧ ∀ (m : Nat) (z' : PyData), m < j → ds[m]? = some z' → PyData.eqv z' d = false := by
  obtain ⟨m, z, rfl, h2, h3, h4⟩ := findE_gen h
  rw [Nat.zero_add]
  exact ⟨z, h2, h3, h4⟩
/-- the items at places, reread -/
theorem RdL.pick {H : Hp} {ds : List PyData} {vs : List V} {fp : List Addr} (h : RdL H ds vs fp) : ∃ fs : List (List Addr), fs.flatten = fp ∧ fs.length = ds.length ∧ ∀ is : List Nat, (∀ i ∈ is, i < ds.length) → RdL H (is.map fun i => ds.getD i .none) (is.map fun i => vs.getD i .non) (is.map fun i => fs.getD i []).flatten := by
  have base : ∃ fs : List (List Addr), fs.flatten = fp ∧ fs.length = ds.length ∧ ∀ i, i < ds.length → Rd H (ds.getD i .none) (vs.getD i .non) (fs.getD i []) := by
    induction ds generalizing vs fp with
    | nil => cases h; exact ⟨[], rfl, rfl, fun i hi => absurd hi (by simp)⟩
    | cons d ds ih =>
      cases h with
      | @cons _ v _ vs f g r t =>
        obtain ⟨fs, e1, e2, e3⟩ := ih t
        refine ⟨f :: fs, by simp [e1], by simp [e2], fun i hi => ?_⟩
        cases i with
        | zero => exact r
        | succ i => simpa using e3 i (by simpa using hi)
  obtain ⟨fs, e1, e2, e3⟩ := base
  refine ⟨fs, e1, e2, fun is => ?_⟩
  induction is with
  | nil => exact fun _ => .nil
  | cons i is ih => exact fun hi => .cons (e3 i (hi i List.mem_cons_self)) (ih fun j hj => hi j (List.mem_cons_of_mem _ hj))
theorem sortIx_perm (ds : List PyData) : (sortIx ds).Perm (List.range ds.length) := List.mergeSort_perm _ _
theorem range_getD {α : Type} (fs : List α) (d : α) : (List.range fs.length).map (fun i => fs.getD i d) = fs := by
  apply List.ext_getElem?
  intro i
  rw [List.getElem?_map]
  by_cases hi : i < fs.length
  · rw [List.getElem?_range hi]
    simp [hi]
  · rw [List.getElem?_eq_none (by simpa using hi), List.getElem?_eq_none (by omega)]; rfl
theorem dpAll {K : PySem.W.Frag} {H : Hp} {ds : List PyData} {vs : List V} {fp : List Addr} (h : RdL H ds vs fp) (p : PyData.plainAll ds = true) : DpAll K H vs ds := RdL.dp h p
theorem itP_sort {xs : List PyData} : itP (.list (sortD xs)) = itP (.list xs) := by
  have key : ∀ l : List PyData, purL l = l.all pur := fun l => by
    induction l with
    | nil => rfl
    | cons a l ih => simp [purL, ih]
  show purL (sortD xs) = purL xs
  rw [key, key]
  have hp : (sortD xs).Perm xs := by
    have := (sortIx_perm xs).map fun i => xs.getD i PyData.none
    rw [range_getD] at this
    exact this
  exact hp.all_eq
theorem k_sorted (F : Fm) (b0 b : Nat) (Hs H : Hp) (x : R) (u : V) (f : List Addr) (Q : VK) (E : Nat → XV → Prop) (I0 : F.Inv b0 Hs) (I : F.Inv b H) (e : ExtS F.st Hs H) (hx : F.Rs Hs x u H f) (q : wpB b (sortedK x) (F.QP Hs Q) E) : rSortD X.K [u] H Q := by
  unfold sortedK at q
  split at q
  · rename_i xs hv
    split at q
    · rename_i hok
      have z := hx.vr.nil hv
      simp only [Bool.and_eq_true, decide_eq_true_eq] at hok
      obtain ⟨hok, hln⟩ := hok
      obtain ⟨h1, h2, h3, h4⟩ := sortOk_inv hok
      cases z with
      | @lst a _ vs fp e1 t1 =>
        refine ⟨a, vs, xs, rfl, SqL.of e1, dpAll t1 h1, hok, ?_, fun p hp => ?_⟩
        · rw [sizeLine_eq]; exact hln
        · obtain ⟨fs, e2, e3, e4⟩ := t1.pick
          have rd := e4 (sortIx xs) fun i hi => sortIx_mem hi
          have hperm : ((sortIx xs).map fun i => fs.getD i []).Perm fs := by
            have := (sortIx_perm xs).map fun i => fs.getD i []
            rw [← e3, range_getD] at this
            exact this
          have hpf : ((sortIx xs).map fun i => fs.getD i []).flatten.Perm fp := by rw [← e2]; exact hperm.flatten
          have sub : ∀ b ∈ ((sortIx xs).map fun i => fs.getD i []).flatten, b ∈ a :: fp := fun b hb => List.mem_cons_of_mem _ (hpf.mem_iff.mp hb)
          have k := sub_list I0 I e hx rd sub (fun n => hpf.nodup_iff.mpr (List.nodup_cons.mp n).2) hp
          have hs : subF x (.list (sortD xs)) = subF x (.list xs) := by unfold subF; rw [itP_sort]
          refine q (.ref p) _ _ (I.new hp) (e.trans (.new hp)) (hs ▸ k)
    · exact q.elim
  · exact q.elim
theorem se_index {e : Expr} {ta tb : SemE} (h : PE X e (tBM X.K "list" (rIndexD X.K) (TEv XR W Γ ta) (tCons (TEv XR W Γ tb) tNil))) : PE X e (TEv XR W Γ (eIndex ta tb)) :=
  PE_imp h fun σ H Q ⟨F, b, e, I, q⟩ => by
    subst e
    unfold eIndex at q
    refine te_bind I .refl q fun b1 r1 x H1 f1 q1 I1 e1 rs1 => ?_
    cases hv : r1.v with
    | dat d =>
      rw [hv] at q1
      cases d with
      | list ds =>
        have q1 : wpB b1 (tb Γ F.σd >>= indexK ds) (F.QP H Q) (F.EP XR W H) := q1
        have rd := rs1.vr.nil hv
        have dom := rs1.own I
        cases rd with
        | @lst a _ vs fp ea ta' =>
        refine ⟨ty_list ea, ?_⟩
        refine te_bind I1 e1 q1 fun b2 r2 y H2 f2 q2 I2 e2 rs2 => ?_
        have rs1' := (rs1.grow I I1.strm e2).vr.nil hv
        unfold indexK at q2
        cases hw : r2.v with
        | dat d =>
          rw [hw] at q2
          dsimp only at q2
          split at q2
          · rename_i hok
            simp only [Bool.and_eq_true] at hok
            obtain ⟨⟨⟨h1, h2⟩, h3⟩, h4⟩ := hok
            cases hj : findE d ds 0 with
            | none => rw [hj] at q2; exact (show False from q2).elim
            | some j =>
              rw [hj] at q2
              obtain ⟨z, k1, k2, k3⟩ := findE_spec hj
              refine ⟨a, y, d, ds, j, z, rfl, rfl, rs1'.dp (plain_list h3), (rs2.vr.nil hw).dp h4, h1, h2, k1, k2, k3, ?_⟩
              exact qp_pure q2 I2 (e1.trans e2) (.int _)
          · exact (show False from q2).elim
        | strm => rw [hw] at q2; exact (show False from q2).elim
        | scr => rw [hw] at q2; exact (show False from q2).elim
      | _ => exact (show False from q1).elim
    | strm => rw [hv] at q1; exact (show False from q1).elim
    | scr => rw [hv] at q1; exact (show False from q1).elim
end
end DD
set_option Elab.async false
set_option linter.all false
set_option maxRecDepth 100000
set_option maxHeartbeats 4000000
/-! DS16: dict comprehensions whose keys are tuples (the kit's rule is for ints and texts; its proof is turned to tuples here). -/
namespace DD
open PySem PySem.Spec PyProof.Rows L2 RZ
theorem d_dictSetT {X : Cx} {pins : List (Addr × Obj)} {σ : L2.St} {H : Hp} {s : Shared} {E : Value → Shared → Prop} {D b : Addr} {kvs : List (List L2.Key × V)} {k : List L2.Key} {v : V} {u r : Value} {Q : Unit → Shared → Prop} (hu : X.A.units + 200 < cLine) (I : Inv X pins σ H s)
    (hD : H D = some (.dT kvs)) (hb : H b = some (.tup (k.map kV))) (hz : kvs.length < sizeLine) (ry : L2.RelV (.ref b) u) (rv : L2.RelV v r) (h : ∀ s', Inv X pins σ (upd H D (.dT (L2.putK kvs k v))) s' → Q () s') : wpAny (model X.prog X.w) X.A (dictSet D u r) Q E s := by
  cases (show u = Value.ref b from ry)
  obtain ⟨z, hd, xs, rel, dd⟩ := dt_of I.hok hD
  have hzx : xs.length ≤ sizeLine := by rw [← Paired.length rel]; exact z
  have hl : (L2.putK kvs k v).length ≤ sizeLine := by have := L2.length_putK kvs k v; omega
  refine wpAny_dictSet_heap (hsz := hzx) (knd := tupleKind (mixKind X.prog X.w)) (show X.A.units < cLine by omega) (L2.key_of I.hok hb) dd fun h' dd' hs => h _ ?_
  obtain ⟨q, es, ep, hq, h2, h3, h4, _, h5⟩ := dd'
  refine d_write I (by rw [hD]; exact True.intro) hs ⟨q, hq⟩ ⟨hl, hd, _, (rel.put k hb rv).keeps fun c ys ec => ?_, q, es, ep, hq, h2, h3, h4, h5⟩
  rw [upd_ne (ne_of ec hD (fun z => nomatch z))]
  exact ec
section
variable {X : Cx}
def tDcT (wi : TI) (g : TG) (tt : TT) (tk tv : TE) (vs : List Nat) : TE := fun σ H Q => wi σ H fun J H1 => ∀ D, H1 D = none → ∃ W : Nat → Nat → Hp → Prop, (∃ m, W 0 m (upd H1 D (.dT []))) ∧ ∀ i m H, W i m H →
  (J.stop i H ∧ Q (.ref D) H) ∨ (J.go i H ∧ ∃ Nx : Hp → Prop, (∀ H', Nx H' → ∃ m', m' < m ∧ W (i + 1) m' H') ∧ ∀ x H', J.yld i H x H' → g x (wipe σ vs) H' fun σ2 H2 => wipe σ2 vs = wipe σ vs ∧ tt σ2 H2 fun b H3 =>
    if b = true then tk σ2 H3 fun y H4 => tv σ2 H4 fun z H5 => ∃ kvs k kb, y = .ref kb ∧ H5 kb = some (.tup (k.map kV)) ∧ H5 D = some (.dT kvs) ∧ kvs.length < sizeLine ∧ Nx (upd H5 D (.dT (L2.putK kvs k z))) else Nx H3)
theorem dcT_core {pins : List (Addr × Obj)} {s : Shared} {σ : L2.St} {H : Hp} {Q : VK} {kx vx tg iter : Expr} {ifs : List Expr} {scope : Scope} {own : List (Str × Nat)} {pos pos' : Pos} {wi : TI} {g : TG} {tt : TT} {tk tv : TE} {use : Option (Value → Sem Unit)} {Qf : Value → Shared → Prop}
    (hu : X.A.units + 200 < cLine) (hc : X.calm = true) (hN : X.N.Nodup) (I : Inv X pins σ H s) (hi : PI X tg iter wi) (ok : BlkOk X.N X.env.scope scope own)
    (hg : ∀ (s : Shared) (H : Hp) (C : Addr) (cl : List (Str × Addr)) (fp : List Addr), PG (X.blk s H scope (compEnvC scope cl C X.env) fp) tg g) (ht : ∀ (s : Shared) (H : Hp) (C : Addr) (cl : List (Str × Addr)) (fp : List Addr), PTs (X.blk s H scope (compEnvC scope cl C X.env) fp) ifs tt)
    (hk : ∀ (s : Shared) (H : Hp) (C : Addr) (cl : List (Str × Addr)) (fp : List Addr), PE (X.blk s H scope (compEnvC scope cl C X.env) fp) kx tk)
    (he : ∀ (s : Shared) (H : Hp) (C : Addr) (cl : List (Str × Addr)) (fp : List Addr), PE (X.blk s H scope (compEnvC scope cl C X.env) fp) vx tv) (hs : ∀ x, foldedSetIterable iter X.env x = pure x)
    (h : tDcT wi g tt tk tv (own.map (·.2)) σ H Q)
    (hRR : ∀ D C s' m H', Inv X pins σ H' s' → Q (.ref D) H' → s'.heap.Ns C m → FpOk X pins H' C → compPost (model X.prog X.w) X.A X.xe use Qf (.ref D) C (.ok .next) s') :
    wpAny (model X.prog X.w) X.A (comprehension (.DictComp kx vx [⟨tg, iter, ifs, 0⟩] scope pos) scope X.env pos' newDict false (eval iter X.env) use) Qf X.xe s := by
  have hfree : ∀ y ∈ scope.names, y.2 = .free → ∃ c, X.env.cells.lookup y.1 = some c := fun y hy e => by
    rcases ok.free y hy e with k | k
    · exact I.ok.has _ (.inl k)
    · exact I.ok.has _ (.inr k)
  refine wpAny_comprehension_free (use := use) rfl hs (closure_ok hfree) ok.kind (fun y hy e => by rw [ok.uniq y hy, e])
    (thn (hi.run pins s σ H _ I h) fun xv s1 hx => thn hx fun itv s2 h2 => ?_)
  obtain ⟨it, fp, tn, J, H2, e, I2, T, st2, f2, q⟩ := h2
  subst e
  refine wpAny_newObj_type (newEnv_comp ?_)
  generalize hD : s2.heap.objs.size = D
  have hDn : H2 D = none := I2.hok.fresh (Nat.le_of_eq hD)
  obtain ⟨W, ⟨m0, w0⟩, turn⟩ := q D hDn
  -- the new list
  generalize hs3 : ({ s2 with heap := s2.heap.push { cls := .type "dict", data := .dict #[] } } : Shared) = s3
  have I3 : Inv X pins σ (upd H2 D (.dT [])) s3 := by
    rw [← hs3]
    refine I2.laid (t' := s2.toks) (fun b o e => Heap.get?_push_of_some _ e) (Nat.le_of_eq hD) ?_
    rw [← hD]
    exact dt_empty s2.heap I2.big
  have h3 : s3.heap = s2.heap.push { cls := .type "dict", data := .dict #[] } := by rw [← hs3]
  have sz : ∀ b ∈ fp, b < s2.heap.objs.size := fun b hb => by
    obtain ⟨o, e, _⟩ := T.obj _ _ st2 b hb
    exact Heap.lt_size e
  have f3 : ∀ b ∈ fp, FpOk X pins (upd H2 D (.dT [])) b ∧ b < s3.heap.objs.size := fun b hb => by
    have hlt := sz b hb
    refine ⟨⟨?_, (f2 b hb).2⟩, by rw [h3, Heap.size_push]; exact Nat.lt_succ_of_lt hlt⟩
    rw [upd_ne (by rw [← hD]; exact Nat.ne_of_lt hlt)]
    exact (f2 b hb).1
  have st3 : tn 0 s3.heap := T.keep _ _ _ st2 fun b _ o e => by rw [h3]; exact Heap.get?_push_of_some _ e
  have I4 := block_start I3 ok hN f3
  have pg := hg s3 (upd H2 D (.dT [])) s3.heap.objs.size (cellsFrom (s3.heap.objs.size + 1) scope.names (cloFrom X.env.cells scope.names [])) fp
  have pt := ht s3 (upd H2 D (.dT [])) s3.heap.objs.size (cellsFrom (s3.heap.objs.size + 1) scope.names (cloFrom X.env.cells scope.names [])) fp
  have pk := hk s3 (upd H2 D (.dT [])) s3.heap.objs.size (cellsFrom (s3.heap.objs.size + 1) scope.names (cloFrom X.env.cells scope.names [])) fp
  have pe := he s3 (upd H2 D (.dT [])) s3.heap.objs.size (cellsFrom (s3.heap.objs.size + 1) scope.names (cloFrom X.env.cells scope.names [])) fp
  show codeAny _ _ (.compStart (.DictComp kx vx [⟨tg, iter, ifs, 0⟩] scope pos) 0 (.ref it) (.ref D) (compEnvC scope (cellsFrom (s3.heap.objs.size + 1) scope.names (cloFrom X.env.cells scope.names [])) s3.heap.objs.size X.env)) (compPost (model X.prog X.w) X.A X.xe use Qf (.ref D) s3.heap.objs.size) { s3 with heap := pushCells (s3.heap.push { cls := .type "dict", data := .dict #[] }) scope.names }
  have nfp : ∀ b ∈ fp, (upd H2 D (.dT [])) b = none := fun b hb => (f3 b hb).1.1
  generalize hce : compEnvC scope (cellsFrom (s3.heap.objs.size + 1) scope.names (cloFrom X.env.cells scope.names [])) s3.heap.objs.size X.env = ce at I4 pg pt pk pe ⊢
  have cL : ce.locals = s3.heap.objs.size := by subst hce; rfl
  generalize hH3 : upd H2 D (.dT []) = H3 at I3 I4 pg pt pk pe w0 nfp f3
  generalize hs4 : ({ s3 with heap := pushCells (s3.heap.push { cls := .type "dict", data := .dict #[] }) scope.names } : Shared) = s4 at I4 ⊢
  have st4 : tn 0 s4.heap := T.keep _ _ _ st3 fun b _ o e => by rw [← hs4]; exact pushCells_keeps _ _ _ _ (Heap.get?_push_of_some _ e)
  have stat : ∀ {σ' : L2.St} {H' : Hp} {s' : Shared}, Inv (X.blk s3 H3 scope ce fp) [] σ' H' s' → (∀ b ∈ fp, H' b = none) → ∀ b ∈ fp, FpOk (X.blk s3 H3 scope ce fp) [] H' b := fun {σ' H' s'} I' hn b hb =>
    ⟨hn b hb, (I'.ok.exf b hb).1, I'.ok.exfs b hb, .inl hb, fun x c e => (I'.ok.exf b hb).2 x c e, fun p hp => absurd (show p ∈ ([] : List (Addr × Obj)) ++ [] from hp) (by simp)⟩
  have loop : codeAny (model X.prog X.w) X.A (.compLoop (.DictComp kx vx [⟨tg, iter, ifs, 0⟩] scope pos) 0 (.ref it) (.ref D) ce) (compPost (model X.prog X.w) X.A X.xe use Qf (.ref D) s3.heap.objs.size) s4 := by
    refine compLoop_anyD (fun n s' => ∃ i H', Inv (X.blk s3 H3 scope ce fp) [] (wipe σ (own.map (·.2))) H' s' ∧ tn i s'.heap ∧ (∀ b ∈ fp, H' b = none) ∧ W i n H') ?_ m0 ⟨0, H3, I4, st4, nfp, w0⟩
    rintro n s5 ⟨i, H5, I5, st5, n5, w5⟩
    rcases turn i n H5 w5 with ⟨stop, qq⟩ | ⟨go, Nx, hNx, step⟩
    · have td := T.done (X.blk s3 H3 scope ce fp) rfl rfl rfl hc i [] s5 _ H5 (fun _ _ => False) I5 (stat I5 n5) st5 stop
      refine thnF td fun r s6 ⟨hr, I6⟩ => ?_
      subst hr
      -- back in the def's context
      have I7 : Inv X pins σ H5 s6 := I3.call' (ch := fp) I6.os I6.base I6.hok I6.bare fun b hb => ⟨(f3 b hb).1.2.2.2.1, (f3 b hb).1.2.1, (f3 b hb).1.2.2.2.2.1, (f3 b hb).1.2.2.2.2.2⟩
      have nC : H5 s3.heap.objs.size = none := by
        have z : H5 ce.locals = none := I6.free
        rw [cL] at z
        exact z
      obtain ⟨m, hn, _⟩ := I6.loc
      have hn : s6.heap.Ns ce.locals m := hn
      rw [cL] at hn
      exact hRR D s3.heap.objs.size s6 m H5 I7 qq hn (I3.fpOk (Nat.le_refl _) nC)
    · have ti := T.item (X.blk s3 H3 scope ce fp) rfl rfl rfl hc i [] s5 _ H5 (fun _ _ => False) I5 (stat I5 n5) st5 go
      refine thnF ti fun r s6 ⟨u, hr, h6⟩ => ?_
      subst hr
      refine thnF h6 fun _ s7 ⟨x, H7, I7, r7, y7, st7, n7⟩ => ?_
      have I7' := I7.pinned (stat I7 n7) (T.obj _ _ st7)
      refine thnF (pg.run _ s7 _ H7 x u _ I7' r7 (step x H7 y7)) fun _ s8 ⟨σ8, H8, I8, hw8, q8⟩ => ?_
      refine thnF (pt.run _ s8 σ8 H8 _ I8 q8) fun b s9 ⟨H9, I9, q9⟩ => ?_
      -- the turn's end
      have fin : ∀ {s' : Shared} {H' : Hp}, Inv (X.blk s3 H3 scope ce fp) ([] ++ pinsAt fp s7.heap) σ8 H' s' → Nx H' → ∃ m, m < n ∧ ∃ i H', Inv (X.blk s3 H3 scope ce fp) [] (wipe σ (own.map (·.2))) H' s' ∧ tn i s'.heap ∧ (∀ b ∈ fp, H' b = none) ∧ W i m H' := fun {s' H'} I' nx => by
        obtain ⟨m', hm, w'⟩ := hNx H' nx
        have pin' : ∀ b ∈ fp, ∀ o, s7.heap.get? b = some o → s'.heap.get? b = some o ∧ H' b = none := fun b hb o e =>
          let z := I'.pin (b, o) (List.mem_append_right _ (List.mem_append_right _ (mem_pinsAt hb e)))
          ⟨z.1, z.2.1⟩
        have hl : (wipe σ (own.map (·.2))).length = σ8.length := by rw [← hw8, wipe_length]
        refine ⟨m', hm, i + 1, H', (I'.unpinned (pins := [])).weak hl (fun j v e => ?_), T.keep _ _ _ st7 fun b hb o e => (pin' b hb o e).1, fun b hb => ?_, w'⟩
        · rw [← hw8] at e
          exact (wipe_some e).1
        · obtain ⟨o, e, _⟩ := T.obj _ _ st7 b hb
          exact (pin' b hb o e).2
      cases b with
      | false =>
        simp only [Bool.false_eq_true, if_false] at q9 ⊢
        exact fin I9 q9
      | true =>
        simp only [if_true] at q9 ⊢
        refine thnF (pk.run _ s9 σ8 H9 _ I9 q9) fun z s10 ⟨yk, H10, I10, r10, q10⟩ => ?_
        refine thnF (pe.run _ s10 σ8 H10 _ I10 q10) fun z2 s11 ⟨yv, H11, I11, r11, kvs, k, kb, ek, hkb, hD11, hz11, nx⟩ => ?_
        subst ek
        exact d_dictSetT (X := X.blk s3 H3 scope ce fp) hu I11 hD11 hkb hz11 r10 r11 fun s12 I12 => fin I12 nx
  exact codeAny_compStart_dict loop (T.self X.A 0 _ _ _ st4 loop)
/-- as a value -/
theorem pe_dcT {kx vx tg iter : Expr} {ifs : List Expr} {scope : Scope} {own : List (Str × Nat)} {pos : Pos} {wi : TI} {g : TG} {tt : TT} {tk tv : TE} (hu : X.A.units + 200 < cLine) (hc : X.calm = true) (hN : X.N.Nodup) (hi : PI X tg iter wi) (ok : BlkOk X.N X.env.scope scope own)
    (hg : ∀ (s : Shared) (H : Hp) (C : Addr) (cl : List (Str × Addr)) (fp : List Addr), PG (X.blk s H scope (compEnvC scope cl C X.env) fp) tg g) (ht : ∀ (s : Shared) (H : Hp) (C : Addr) (cl : List (Str × Addr)) (fp : List Addr), PTs (X.blk s H scope (compEnvC scope cl C X.env) fp) ifs tt)
    (hk : ∀ (s : Shared) (H : Hp) (C : Addr) (cl : List (Str × Addr)) (fp : List Addr), PE (X.blk s H scope (compEnvC scope cl C X.env) fp) kx tk)
    (he : ∀ (s : Shared) (H : Hp) (C : Addr) (cl : List (Str × Addr)) (fp : List Addr), PE (X.blk s H scope (compEnvC scope cl C X.env) fp) vx tv) (hs : ∀ x, foldedSetIterable iter X.env x = pure x := by intro _; rfl) :
    PE X (.DictComp kx vx [⟨tg, iter, ifs, 0⟩] scope pos) (tDcT wi g tt tk tv (own.map (·.2))) := by
  refine ⟨fun pins s σ H Q I h => ?_⟩
  rw [arm_eval_DictComp]
  refine dcT_core hu hc hN I hi ok hg ht hk he hs h fun D C s' m H' I' q hn f => ⟨m, hn, fun h'' sb => ?_⟩
  obtain ⟨f0, f1, f2, f3, f4, f5⟩ := f
  exact ⟨.ref D, H', I'.turned (t' := s'.toks) (fun b o hb e => (sb.2 b hb).trans e) f0 f1 f3 f4 f5, rfl, q⟩
end
end DD
set_option Elab.async false
set_option linter.all false
set_option maxRecDepth 100000
set_option maxHeartbeats 4000000
/-! DS17: dict comprehensions. -/
namespace DD
open PySem PySem.Spec PyProof.Rows L2 RZ
def keysOk : List PyData → Bool
  | [] => true
  | k :: r => isKeyT k && !(r.any fun k' => PyData.eqv k k') && keysOk r
def dcGo (g : SemG) (t : SemT) (ek ev : SemE) (Γ : FEnv) (σ : SD) : List PyData → M (List (PyData × R))
  | [] => .ret []
  | x :: xs => g x σ >>= fun σ1 => t Γ σ1 >>= fun c =>
    if c then ek Γ σ1 >>= fun k => ev Γ σ1 >>= fun r => (match k.v with
      | .dat d => if isKeyT d then dcGo g t ek ev Γ σ xs >>= fun rs => .ret ((d, r) :: rs) else .fail
      | _ => .fail) else dcGo g t ek ev Γ σ xs
def dcEnd (ct : List Nat) (ps : List (PyData × R)) : M R := match datas (ps.map (·.2)) with
  | some ds => if ds.length ≤ 16777215 ∧ keysOk (ps.map (·.1)) = true ∧ ds.isEmpty = false then .ret (fin (.dict ((ps.map (·.1)).zip ds)) (tsOf (ps.map (·.2)) ++ ct) (dispF (ps.map (·.2)))) else .fail
  | none => .fail
def eDc (own : List Nat) (i : SemI) (g : SemG) (t : SemT) (ek ev : SemE) : SemE := fun Γ σ =>
  i Γ σ >>= fun z => noX (dcGo g t ek ev Γ (wipeD (demote z.2 σ) own) z.1) >>= fun rs => dcEnd z.2 rs
structure DcS (F : Fm) (H H1 : Hp) (D : Addr) (ct own : List Nat) (ks : List (List L2.Key)) (rs : List R) (fs : List (List Addr)) (b : Nat) (Hc : Hp) : Prop where
  inv : (F.blk ct own).Inv b Hc
  grow : ExtS F.st H1 Hc
  hD1 : H1 D = none
  hDf : D ∉ fs.flatten
  ex : ∀ a, ExA rs fs a → H1 a = none
  kl : ks.length = rs.length
  res : ∃ vs, Hc D = some (.dT (ks.zip vs)) ∧ RsAll F H Hc rs vs fs
section
variable {F : Fm} {H H1 Hc : Hp} {D : Addr} {ct own : List Nat} {ks : List (List L2.Key)} {rs : List R} {fs : List (List Addr)} {b : Nat}
theorem DcS.start (I : F.Inv b H1) (hD : H1 D = none) : DcS F H H1 D ct own [] [] [] b (upd H1 D (.dT [])) :=
  ⟨((I.demote ct).wipes own).new hD, .new hD, hD, (fun z => nomatch z), (fun a ⟨_, z, _⟩ => nomatch z), rfl, [], upd_same, .nil⟩
theorem DcS.noSt {b0 : Nat} (S : DcS F H H1 D ct own ks rs fs b Hc) (I0 : F.Inv b0 H) (x01 : ExtS F.st H H1) : ¬ stC F.st D := fun c => by
  obtain ⟨us, hu, _⟩ := I0.strm.lst c
  have := x01.2 D S.hD1
  rw [hu] at this
  cases this
theorem DcS.more {b0 b4 : Nat} {H4 : Hp} (S : DcS F H H1 D ct own ks rs fs b Hc) (I0 : F.Inv b0 H) (x01 : ExtS F.st H H1) (s4 : StOk F.st b4 H4) (x4 : ExtS F.st Hc H4) : DcS F H H1 D ct own ks rs fs b4 H4 := by
  obtain ⟨vs, hD, ra⟩ := S.res
  exact ⟨S.inv.grow x4 s4, S.grow.trans x4, S.hD1, S.hDf, S.ex, S.kl, vs, x4.1 D _ hD (S.noSt I0 x01) (fun _ c => by cases c), ra.grow I0 S.inv.strm x4⟩
theorem DcS.snoc {b0 : Nat} (I0 : F.Inv b0 H) (x01 : ExtS F.st H H1) (S : DcS F H H1 D ct own ks rs fs b Hc)
    {H4 : Hp} {b4 : Nat} {r : R} {y : V} {f : List Addr} {k : List L2.Key} (s4 : StOk F.st b4 H4) (x4 : ExtS F.st Hc H4) (rsF : F.Rs H r y H4 f) (new : ∀ a ∈ exs r.f f, Hc a = none)
    (np : ∀ a ∈ f, a ≠ D ∧ ¬ ExA rs fs a) (hk : k ∉ ks) :
    ∃ kvs, H4 D = some (.dT kvs) ∧ kvs.length = rs.length ∧ DcS F H H1 D ct own (ks ++ [k]) (rs ++ [r]) (fs ++ [f]) b4 (upd H4 D (.dT (L2.putK kvs k y))) := by
  have ex := S.ex
  have hDf := S.hDf
  have nD := S.noSt I0 x01
  obtain ⟨vs, hD, ra⟩ := S.res
  have hD4 : H4 D = some (.dT (ks.zip vs)) := x4.1 D _ hD nD (fun _ c => by cases c)
  have ra4 := ra.grow I0 S.inv.strm x4
  have hDf2 : D ∉ (fs ++ [f]).flatten := fun z => by
    rw [List.flatten_append, List.mem_append] at z
    rcases z with z | z
    · exact hDf z
    · simp at z
      exact (np D z).1 rfl
  have hkv : ks.length = vs.length := S.kl.trans ra.len
  have hput : L2.putK (ks.zip vs) k y = (ks ++ [k]).zip (vs ++ [y]) := by
    unfold L2.putK
    rw [if_neg]
    · rw [List.zip_append hkv]; rfl
    · simp only [List.any_eq_true, decide_eq_true_eq, not_exists, not_and]
      exact fun p hp e => hk (e ▸ (List.of_mem_zip hp).1)
  have ra5 := (ra4.snoc rsF fun a ha x => (np a ha).2 x).poke (o := .dT (L2.putK (ks.zip vs) k y)) (by rw [hD4]; simp) hDf2
  have slotD : ∀ j s, (F.blk ct own).σd[j]? = some (some s) → D ∉ F.fps j := fun j s h z => by
    obtain ⟨_, h2⟩ := wipeD_on h
    obtain ⟨s0, e0, _⟩ := demote_some h2
    exact I0.slotDom e0 z (x01.2 D S.hD1)
  refine ⟨ks.zip vs, hD4, by rw [List.length_zip, hkv, Nat.min_self]; exact ra.len.symm, ?_, ?_, S.hD1, hDf2, fun a x => ?_, by simp [S.kl], vs ++ [y], by rw [← hput]; exact upd_same, ra5⟩
  · exact (S.inv.grow x4 s4).poke (I0.h0 (x01.2 D S.hD1)) (by rw [hD4]; simp) (by rw [hD4]; simp) (by rw [hD4]; simp [LamX.CodeO]) nD slotD
  · refine ⟨fun a o ea c nt => ?_, fun a ea => ?_⟩
    · have : a ≠ D := fun z => by subst z; rw [S.hD1] at ea; cases ea
      rw [upd_ne this]; exact x4.1 a o (S.grow.1 a o ea c nt) c nt
    · by_cases z : a = D
      · subst z; exact S.hD1
      · rw [upd_ne z] at ea; exact S.grow.2 a (x4.2 a ea)
  · rcases x.snoc ra.flen with x | x
    · exact ex a x
    · exact S.grow.2 a (new a x)
def keyT (k : List L2.Key) : PyData := .tuple (k.map keyD)
theorem DcS.done {XR : XRel} {W : WX} {b0 : Nat} {Q : VK} {ps : List (PyData × R)} (I0 : F.Inv b0 H) {b1 : Nat} (I1 : F.Inv b1 H1) (x01 : ExtS F.st H H1) (hks : ps.map (·.1) = ks.map keyT) (S : DcS F H H1 D ct own ks ((ps.map (·.2)).map (tnt ct)) fs b Hc) (q : wpB b (dcEnd ct ps) (F.QP H Q) (F.EP XR W H)) : Q (.ref D) Hc := by
  obtain ⟨vs, hD, ra⟩ := S.res
  unfold dcEnd at q
  cases hd : datas (ps.map (·.2)) with
  | none => rw [hd] at q; exact (show False from q).elim
  | some ds =>
    rw [hd] at q
    have q : wpB b (if ds.length ≤ 16777215 ∧ keysOk (ps.map (·.1)) = true ∧ ds.isEmpty = false then M.ret (fin (.dict ((ps.map (·.1)).zip ds)) (tsOf (ps.map (·.2)) ++ ct) (dispF (ps.map (·.2)))) else .fail) (F.QP H Q) (F.EP XR W H) := q
    split at q
    · rename_i hcond
      have hds := ra.disp (ds := ds) (by rw [datas_tnt]; exact hd)
      have hDH : H D = none := x01.2 D S.hD1
      have hl : ks.length = vs.length := S.kl.trans ra.len
      have hl2 : ds.length = vs.length := hds.length
      have rd : Rd Hc (.dict ((ps.map (·.1)).zip ds)) (.ref D) (D :: fs.flatten) := by
        refine .dT ?_ hD ?_ ?_
        · intro c
          have h0 : (ks.zip vs).length = 0 := by rw [c]; rfl
          rw [List.length_zip] at h0
          have hne : ds ≠ [] := fun c => by rw [c] at hcond; cases hcond.2.2
          have := List.length_pos_iff.mpr hne
          omega
        · rw [hks, List.map_fst_zip (by simp; omega), show (fun p : List L2.Key × V => PyData.tuple (p.1.map keyD)) = keyT ∘ Prod.fst from rfl, ← List.map_map, List.map_fst_zip (by omega)]
        · rw [List.map_snd_zip (by rw [hks]; simp; omega), List.map_snd_zip (by omega)]
          exact hds
      refine q (.ref D) Hc (D :: fs.flatten) (I1.grow S.grow S.inv.strm) (x01.trans S.grow) (RsOk.fin rd (fun a ha => ?_) ?_ ?_)
      · rcases List.mem_cons.mp ha with rfl | ha
        · exact .inl hDH
        · refine (ra.src a ha).mono fun i hi => ?_
          simp only [tsOf, List.mem_flatMap, List.mem_map, tnt, List.mem_append] at hi ⊢
          obtain ⟨r', ⟨r, hr, rfl⟩, h⟩ := hi
          exact (List.mem_append.mp h).imp (fun h => ⟨r, hr, h⟩) id
      · unfold dispF
        split
        · rename_i hf
          exact List.nodup_cons.mpr ⟨S.hDf, ra.nodup (by rw [allF_tnt]; exact hf)⟩
        · exact ⟨D, _, rfl, S.hDf⟩
      · unfold dispF
        split
        · rename_i hf
          intro a ha
          rcases List.mem_cons.mp ha with rfl | ha
          · exact hDH
          · obtain ⟨g, hg, hag⟩ := List.mem_flatten.mp ha
            exact ra.freshAll (by rw [allF_tnt]; exact hf) g hg a hag
        · intro a ha
          have : a = D := by simpa [exs] using ha
          subst this
          exact hDH
    · exact q.elim
theorem dcEnd_inv {ps : List (PyData × R)} {b : Nat} {Q : Nat → R → Prop} {E : Nat → XV → Prop} (h : wpB b (dcEnd ct ps) Q E) : ps.length ≤ 16777215 ∧ keysOk (ps.map (·.1)) = true := by
  unfold dcEnd at h
  cases hd : datas (ps.map (·.2)) with
  | none => rw [hd] at h; exact (show False from h).elim
  | some ds =>
    rw [hd] at h
    have h : wpB b (if ds.length ≤ 16777215 ∧ keysOk (ps.map (·.1)) = true ∧ ds.isEmpty = false then M.ret (fin (.dict ((ps.map (·.1)).zip ds)) (tsOf (ps.map (·.2)) ++ ct) (dispF (ps.map (·.2)))) else .fail) Q E := h
    split at h
    · rename_i hl
      have := datas_len hd
      rw [List.length_map] at this
      exact ⟨by omega, hl.2.1⟩
    · exact h.elim
end
theorem keysOk_new {a : List PyData} {k : PyData} {r : List PyData} (h : keysOk (a ++ k :: r) = true) : ∀ k' ∈ a, PyData.eqv k' k = false := by
  induction a with
  | nil => exact fun k' h => nomatch h
  | cons x a ih =>
    intro k' hk
    have h : (isKeyT x && !((a ++ k :: r).any fun k' => PyData.eqv x k') && keysOk (a ++ k :: r)) = true := h
    simp only [Bool.and_eq_true, Bool.not_eq_true', List.any_eq_false] at h
    rcases List.mem_cons.mp hk with rfl | hk
    · simpa using h.1.2 k (by simp)
    · exact ih h.2 k' hk
theorem dc_te {XR : XRel} {W : WX} {Γ : FEnv} {own sl : List Nat} {i : SemI} {g : SemG} {t : SemT} {ek ev : SemE} (hsl : ∀ j ∈ sl, j ∈ own) : ∀ σ H Q, TEv XR W Γ (eDc own i g t ek ev) σ H Q → tDcT (TIv XR W Γ i) (TGv sl g) (TTv XR W0 Γ t) (TEv XR W0 Γ ek) (TEv XR W0 Γ ev) own σ H Q := by
  rintro σ H Q ⟨F, b, rfl, I, q⟩
  unfold eDc at q
  refine ⟨F, b, rfl, I, wpB_mono (fun b1 z q1 J H1 I1 e1 ok => ?_) (fun _ _ z => z) _ _ ((wpB_bind _ _).mp q)⟩
  obtain ⟨items, ct⟩ := z
  obtain ⟨fp, src, ⟨Y, wk, hy⟩⟩ := ok
  intro D hD
  have own' : ∀ a ∈ fp, Own F.A F.H0 F.st a := fun a z => (src a z).1.own I
  have hk : ∀ {H : Hp}, ExtS F.st H1 H → Keeps fp H1 H := fun {H} x => keeps_of (fun a z => (own' a z).2) I1.strm x
  have ap : ∀ {f : List Addr}, (∀ a ∈ f, a ∈ fp) → Apart (F.blk ct own).σd F.fps f := fun sub j s h a ha z => (src a (sub a z)).1.apart I (wipeD_on h).2 ha
  have q2 := noX_wp _ _ ((wpB_bind _ _).mp q1)
  refine walk_it wk (fun k Hc => ∃ ks ps fs b, DcS F H H1 D ct own ks ((ps.map (·.2)).map (tnt ct)) fs b Hc ∧ ps.map (·.1) = ks.map keyT ∧ wpB b (dcGo g t ek ev Γ (wipeD (demote ct F.σd) own) (items.drop k)) (fun b' rs' => wpB b' (dcEnd ct (ps ++ rs')) (F.QP H Q) (F.EP XR W H)) (fun _ _ => False)) ⟨[], [], [], b1, DcS.start I1 hD, rfl, q2⟩ (fun k Hc _ ⟨ks, ps, fs, b, S, _⟩ => hk S.grow) ?_ ?_
  · rintro k x Hc H' hi ⟨ks, ps, fs, b2, S, hks, w⟩ hY
    obtain ⟨hH, d, f, ed, rd, sub⟩ := hy k Hc x H' hi (hk S.grow) hY
    obtain ⟨xc, s'⟩ := grow1 hH S.inv.strm
    rw [drop_at ed] at w
    refine ⟨F.blk ct own, b2, d, f, fun _ _ => False, rfl, S.inv.grow xc s', rd, fun a ha => own' a (sub a ha), ap sub, ?_⟩
    refine wpB_mono (fun b3 σd3 w3 fps3 σ3 I3 _ tg => ⟨?_, ?_⟩) (fun _ _ z => z) _ _ ((wpB_bind _ _).mp w)
    · refine wipe_eq (tg.len.trans (wipe_length ..)) fun j hj => ?_
      rw [(tg.off j fun z => hj (hsl j z)).2.2]
      exact wipe_off hj
    · have ins := inS_tg hsl sub tg
      refine ⟨(F.blk ct own).at_ σd3 fps3 σ3, b3, rfl, I3, wpB_mono (fun b4 c w4 H3 I4 e4 => ?_) (fun _ _ z => z.elim) _ _ ((wpB_bind _ _).mp w3)⟩
      have x3 : ExtS F.st Hc H3 := xc.trans e4
      cases c with
      | false => exact ⟨ks, ps, fs, b4, S.more I e1 I4.strm x3, hks, w4⟩
      | true =>
        dsimp only
        rw [if_pos rfl]
        refine ⟨(F.blk ct own).at_ σd3 fps3 σ3, b4, rfl, I4, wpB_mono (fun b5 rk w5 yk H4 fk I5 e5 rsk => ?_) (fun _ _ z => z.elim) _ _ ((wpB_bind _ _).mp w4)⟩
        refine ⟨(F.blk ct own).at_ σd3 fps3 σ3, b5, rfl, I5, wpB_mono (fun b6 r w6 y H5 f5 I6 e6 rs6 => ?_) (fun _ _ z => z.elim) _ _ ((wpB_bind _ _).mp w5)⟩
        have x4 : ExtS F.st Hc H4 := x3.trans e5
        have x5 : ExtS F.st Hc H5 := x4.trans e6
        have x04 : ExtS F.st H H4 := (e1.trans S.grow).trans x4
        cases hkv : rk.v with
        | dat kd =>
          rw [hkv] at w6
          dsimp only at w6
          split at w6
          · rename_i hkt
            have hDc : Hc D ≠ none := by obtain ⟨vs, h, _⟩ := S.res; rw [h]; simp
            have slot1 : ∀ {a j s}, σd3[j]? = some (some s) → a ∈ fps3 j → H1 a ≠ none := fun {a j s} hs hj => by
              rcases ins j s a hs hj with h | ⟨s0, e0, ef, _⟩
              · exact (src a h).2
              · rw [ef] at hj; exact I1.slotDom e0 hj
            have rdk : Rd H5 kd yk fk := (rsk.grow I4 I5.strm e6).vr.nil hkv
            obtain ⟨kk, kb, rfl, rfl, hkb⟩ : ∃ (kk : List L2.Key) (kb : Addr), kd = keyT kk ∧ yk = .ref kb ∧ H5 kb = some (.tup (kk.map kV)) := by
              cases rdk with
              | @tup a xs vs _ e t =>
                obtain ⟨k', h1, h2⟩ := keys_of t hkt
                exact ⟨k', a, by rw [h1]; rfl, rfl, by rw [← h2]; exact e⟩
              | _ => cases hkt
            have w7 := (wpB_bind _ _).mp w6
            obtain ⟨b7, rs7, w8⟩ := wp_end _ _ w7
            obtain ⟨hl, hko⟩ := dcEnd_inv (show wpB b7 (dcEnd ct (ps ++ (keyT kk, r) :: rs7)) (F.QP H Q) (F.EP XR W H) from w8)
            have hnew : kk ∉ ks := fun z => by
              rw [List.map_append, List.map_cons, hks] at hko
              have := keysOk_new hko (keyT kk) (List.mem_map.mpr ⟨kk, z, rfl⟩)
              have e : PyData.eqv (keyT kk) (keyT kk) = decide (kk = kk) := keysD_eqv kk kk
              rw [this] at e
              simp at e
            obtain ⟨kvs, h1, h2, S2⟩ := S.snoc (k := kk) I e1 I6.strm x5 (inS_rs (G := (F.blk ct own).at_ σd3 fps3 σ3) x04.2 (fun a ha => (src a ha).1) ins rfl rs6) (fun a ha => x4.2 a (rs6.fr.2 a ha)) (fun a ha => by
              obtain ⟨vs, hv, ra⟩ := S.res
              rcases rs6.src a ha with h | ⟨j, s, hs, hj, _⟩
              · have := x4.2 a h
                exact ⟨fun z => hDc (z ▸ this), fun z => ExA.dom ra z this⟩
              · have := slot1 hs hj
                exact ⟨fun z => this (z ▸ hD), fun z => this (S.ex a z)⟩) hnew
            refine ⟨kvs, kk, kb, rfl, hkb, h1, ?_, ks ++ [kk], ps ++ [(keyT kk, r)], fs ++ [f5], b6, by rw [List.map_append, List.map_append]; exact S2, by rw [List.map_append, List.map_append, hks]; rfl, wpB_mono (fun b8 rs8 w9 => ?_) (fun _ _ z => z) _ _ w7⟩
            · rw [h2, List.length_map, List.length_map, sizeLine_eq]
              simp at hl
              omega
            · have w9 : wpB b8 (dcEnd ct (ps ++ (keyT kk, r) :: rs8)) (F.QP H Q) (F.EP XR W H) := w9
              rw [List.append_assoc]
              exact w9
          · exact (show False from w6).elim
        | strm => rw [hkv] at w6; exact (show False from w6).elim
        | scr => rw [hkv] at w6; exact (show False from w6).elim
  · rintro Hc ⟨ks, ps, fs, b2, S, hks, w⟩
    rw [List.drop_length] at w
    have w : wpB b2 (dcEnd ct (ps ++ [])) (F.QP H Q) (F.EP XR W H) := w
    rw [List.append_nil] at w
    exact S.done I I1 e1 hks w
end DD
set_option Elab.async false
set_option linter.all false
set_option maxRecDepth 100000
set_option maxHeartbeats 4000000
/-! DS18: sorted(d), d's keys tuples. -/
namespace DD
open PySem PySem.Spec PyProof.Rows L2 RZ
mutual
theorem Reads.dom {h : Heap} {v : Value} {d : PyData} {as : List Addr} (r : Reads h v d as) : ∀ b ∈ as, ∃ o, h.get? b = some o := by
  match r with
  | .none => exact fun b z => nomatch z
  | .bool _ => exact fun b z => nomatch z
  | .int _ _ => exact fun b z => nomatch z
  | .str _ _ => exact fun b z => nomatch z
  | .list e _ _ t =>
    intro b z
    rcases List.mem_cons.mp z with rfl | z
    · exact ⟨_, e⟩
    · exact ReadsAll.dom t b z
  | .tuple e _ _ t => exact ReadsAll.dom t
  | .dict e _ _ t u =>
    intro b z
    rcases List.mem_append.mp z with z | z
    · rcases List.mem_cons.mp z with rfl | z
      · exact ⟨_, e⟩
      · exact ReadsAll.dom t b z
    · exact ReadsAll.dom u b z
theorem ReadsAll.dom {h : Heap} {v : List Value} {d : List PyData} {as : List Addr} (r : ReadsAll h v d as) : ∀ b ∈ as, ∃ o, h.get? b = some o := by
  match r with
  | .nil => exact fun b z => nomatch z
  | .cons t u => exact fun b z => (List.mem_append.mp z).elim (Reads.dom t b) (ReadsAll.dom u b)
end
theorem each_reads' {h : Heap} : ∀ {us : List Value} {ds : List PyData} {as : List Addr} (k : Nat) (es : List PyData), ReadsAll h us ds as → (∀ i, i < ds.length → es[k + i]? = ds[i]?) → PySem.W.EachIs (fun u (i : Nat) => ∃ as, Reads h u (es.getD i .none) as ∧ ∀ b ∈ as, ∃ o, h.get? b = some o) us (List.range' k us.length)
  | _, _, _, k, es, .nil, _ => .nil
  | _, d :: ds, _, k, es, .cons r t, h => by
    rw [List.length_cons, List.range'_succ]
    refine .cons ?_ (each_reads' (k + 1) es t fun i hi => ?_)
    · have := h 0 (by simp)
      have e : es.getD k .none = d := by
        rw [List.getD_eq_getElem?_getD]
        simp at this
        rw [this]
        rfl
      exact ⟨_, by rw [e]; exact r, Reads.dom r⟩
    · have := h (i + 1) (by simpa using hi)
      rw [show k + 1 + i = k + (i + 1) by omega, this]
      simp
/-- the dict's key tuples -/
def rSortDT : List V → Hp → VK → Prop := fun vs H Q => ∃ (a : Addr) (kvs : List (List L2.Key × V)), vs = [.ref a] ∧ H a = some (.dT kvs) ∧ sortOk (kvs.map fun p => keyT p.1) = true ∧ kvs.length ≤ sizeLine ∧
  ∀ p bs, H p = none → IsKeys H kvs bs → Q (.ref p) (upd H p (.lst ((sortIx (kvs.map fun p => keyT p.1)).map fun i => (bs.map V.ref).getD i .non)))
theorem isKeys_rd {H : Hp} : ∀ {kvs : List (List L2.Key × V)} {bs : List Addr}, IsKeys H kvs bs → RdL H (kvs.map fun p => keyT p.1) (bs.map V.ref) []
  | _, _, .nil => .nil
  | _, _, .cons (a := p) (b := b) h t => by
    have kr : ∀ k : List L2.Key, RdL H (k.map keyD) (k.map kV) [] := fun k => by
      induction k with
      | nil => exact .nil
      | cons x k ih =>
        have : Rd H (keyD x) (kV x) [] := by cases x with
          | inl i => exact .int i
          | inr s => exact .str s
        exact RdL.cons this ih
    exact RdL.cons (.tup h (kr p.1)) (isKeys_rd t)
section
variable {X : Cx}
theorem cr_sortDT (hc : X.calm = true) (hu : X.A.units + 200 < cLine) : CallR X (.builtin "sorted") rSortDT := by
  intro pins s σ H xs us Q I r h
  obtain ⟨d, kvs, rfl, hd, hok, hlen, q⟩ := h
  obtain ⟨u, rfl, rx⟩ := r.one
  cases rx
  obtain ⟨z, hs, ks, pr, o, es, ep, ho, hx, hdt, he, hn⟩ := (show ObjOk X.prog X.w H s.heap d (.dT kvs) from I.hok d _ hd)
  have l1 : es.size = ks.length := size_of_entries he
  have l2 : kvs.length = ks.length := Paired.length pr
  have hik := isKeys_of pr
  refine Calls.call_function_entry PyProof.Rows.kind_sorted PyProof.Rows.plain_sorted PyProof.Rows.entry_sorted (PyProof.Rows.args_sorted1 _) ?_
  unfold Builtin.«sorted»
  refine wpAny_bind (m := checkCount "sorted" 1 1 _) (wpAny_pure ?_)
  refine wpAny_bind (PySem.W.kdu_collect (A := X.A.in1) (kdl_raw hs hx hdt) (I.ok.hd hc) ho (by omega) fun h' tk acc' hk it => ?_)
  have ea : acc'.toList = ks.map fun x => Value.ref x.2.1 := by
    have hl : acc'.toList.length = ks.length := by rw [Array.length_toList, it.1]; exact l1
    apply List.ext_getElem?
    intro j
    rw [List.getElem?_map]
    cases hj : acc'.toList[j]? with
    | none =>
      have h1 := List.getElem?_eq_none_iff.mp hj
      rw [List.getElem?_eq_none (by omega)]
      all_goals rfl
    | some v =>
      obtain ⟨en, hen, hv⟩ := it.2 j v (by rw [← Array.getElem?_toList]; exact hj)
      have qe := entry_at he j
      rw [hen] at qe
      cases hb : ks[j]? with
      | none => rw [hb] at qe; exact nomatch (show some en = none from qe)
      | some b =>
        rw [hb] at qe
        have e2 : en = entryOfKey (tupleKind (mixKind X.prog X.w)) b := Option.some.inj qe
        rw [hv, e2]
        all_goals rfl
  have eb : acc'.toList = (ks.map fun x => x.2.1).map Value.ref := by rw [ea, List.map_map]; all_goals rfl
  have rv : Vals ((ks.map fun x => x.2.1).map V.ref) acc'.toList := by rw [eb]; exact L2.vals_refs _
  have I1 : Inv X pins σ H { s with heap := h', toks := tk } := I.kept hk
  generalize hbs : (ks.map fun x => x.2.1) = bs at rv hik
  have hal : acc'.toList.length = kvs.length := by rw [Array.length_toList, it.1]; omega
  refine wpAny_bind (wpAny_newList ?_ (by rw [hal]; exact hlen))
  have hoL : (h'.push (seqObj "list" acc'.toList.toArray 0)).get? h'.objs.size = some (seqObj "list" acc'.toList.toArray 0) := Heap.get?_push_size _ rfl
  show wpAny _ _ _ _ _ { s with heap := h'.push (seqObj "list" acc'.toList.toArray 0), toks := tk }
  obtain ⟨h1, h2, h3, h4⟩ := sortOk_inv hok
  have rdl := isKeys_rd hik
  obtain ⟨as, hr⟩ := Dp.readsAll I1 (kvs.map fun p => keyT p.1) _ acc'.toList (dpAll rdl h1) rv
  have hmap : (List.range kvs.length).map (fun i => (kvs.map fun p => keyT p.1).getD i .none) = (kvs.map fun p => keyT p.1) := by
    have := range_getD (kvs.map fun p => keyT p.1) PyData.none
    rw [List.length_map] at this
    exact this
  have er : PySem.W.EachIs (fun u (i : Nat) => ∃ as, Reads (h'.push (seqObj "list" acc'.toList.toArray 0)) u ((kvs.map fun p => keyT p.1).getD i .none) as ∧ h'.objs.size ∉ as) acc'.toList (List.range kvs.length) := by
    have := each_reads' 0 (kvs.map fun p => keyT p.1) hr (fun i _ => by simp)
    rw [hal, ← List.range_eq_range'] at this
    exact this.mono fun u i ⟨as, r, dm⟩ => ⟨as, PyProof.Rows.Reads.keeps (fun _ _ e => Heap.get?_push_of_some _ e) r, fun z => by
      obtain ⟨o, e⟩ := dm _ z
      exact absurd (Heap.lt_size e) (Nat.lt_irrefl _)⟩
  have ev : PySem.W.EachIs (fun u (i : Nat) => ∃ v, (bs.map V.ref)[i]? = some v ∧ RelV v u) acc'.toList (List.range kvs.length) := by
    have := each_of_vals 0 (bs.map V.ref) rv (fun i _ => by simp)
    rw [hal, ← List.range_eq_range'] at this
    exact this
  refine wpAny_bind (wpAny_holding (PySem.W.list_sort_data (s := { s with heap := h'.push (seqObj "list" acc'.toList.toArray 0), toks := tk }) (enc := fun i => (kvs.map fun p => keyT p.1).getD i .none) (bs := List.range kvs.length) hoL ev er (by rw [hmap]; exact h2) (by rw [hmap]; exact h3) (by rw [List.length_range]; exact hlen) (fun i hi => ?_) fun out hol hout => ?_))
  · have hi : i < (kvs.map fun p => keyT p.1).length := by simpa using hi
    have : ((kvs.map fun p => keyT p.1).getD i .none).depth ≤ 150 := by
      rw [List.getD_eq_getElem?_getD, List.getElem?_eq_getElem hi]
      exact h4 _ (List.getElem_mem hi)
    show X.A.in1.units + 1 + ((kvs.map fun p => keyT p.1).getD i .none).depth < cLine
    have : X.A.in1.units = X.A.units + 1 := rfl
    omega
  · have hv := vals_of_each hout
    have hsx : (List.range kvs.length).mergeSort (PySem.W.dataLe false fun i => (kvs.map fun p => keyT p.1).getD i .none) = sortIx (kvs.map fun p => keyT p.1) := by unfold sortIx; rw [List.length_map]
    rw [hsx] at hv
    obtain ⟨e', he'⟩ := PyProof.Rows.sortedHeap_at (vs := acc'.toList) (out := out.toArray) hoL
    have hlen2 : ((sortIx (kvs.map fun p => keyT p.1)).map fun i => (bs.map V.ref).getD i V.non).length ≤ sizeLine := by
      rw [List.length_map]
      have : (sortIx (kvs.map fun p => keyT p.1)).length = kvs.length := by unfold sortIx; simp
      rw [this]; exact hlen
    refine wpAny_pure ⟨_, rfl, .ref h'.objs.size, upd H h'.objs.size (.lst ((sortIx (kvs.map fun p => keyT p.1)).map fun i => (bs.map V.ref).getD i .non)), I1.laid (t' := tk) (fun b u e => ?_) (Nat.le_refl _)
      (show ObjOk X.prog X.w _ _ _ (.lst _) from ⟨hlen2, out, e', hv, he'⟩), rfl, q _ _ (I1.hok.fresh (Nat.le_refl _)) hik⟩
    have hb : b < h'.objs.size := Heap.lt_size e
    rw [PyProof.Rows.sortedHeap_old (Nat.ne_of_lt hb) (by rw [size_push']; exact Nat.lt_succ_of_lt hb)]
    exact Heap.get?_push_of_some _ e
end
end DD
set_option Elab.async false
set_option linter.all false
set_option maxRecDepth 100000
set_option maxHeartbeats 4000000
/-! DS19: sorted of either; a call by one keyword. -/
namespace DD
open PySem PySem.Spec PyProof.Rows L2 RZ
def sortedK2 (x : R) : M R := match x.v with
  | .dat (.dict kvs) => if (kvs.map (·.1)).all isKeyT && !kvs.isEmpty && sortOk (kvs.map (·.1)) && decide (kvs.length ≤ 16777216) then .ret (fin (.list (sortD (kvs.map (·.1)))) [] .all) else .fail
  | _ => sortedK x
def eSorted2 := eMon sortedK2
def rSort2 (K : PySem.W.Frag) : List V → Hp → VK → Prop := fun vs H Q => rSortD K vs H Q ∨ rSortDT vs H Q
section
variable {X : Cx} {XR : XRel} {W : WX} {Γ : FEnv}
theorem cr_sort2 (hc : X.calm = true) (hu : X.A.units + 200 < cLine) : CallR X (.builtin "sorted") (rSort2 X.K) := CallR.or (cr_sortD hu) (cr_sortDT hc hu)
theorem purL_keys : ∀ {ks : List PyData}, ks.all isKeyT = true → purL ks = true
  | [], _ => rfl
  | k :: ks, h => by
    rw [List.all_cons, Bool.and_eq_true] at h
    have hk : pur k = true := by
      have h1 := h.1
      unfold isKeyT at h1
      split at h1
      · rename_i xs
        show purL xs = true
        clear h
        induction xs with
        | nil => rfl
        | cons x xs ih =>
          rw [List.all_cons, Bool.and_eq_true] at h1
          have hx : pur x = true := by
            have h2 := h1.1
            unfold isKey at h2
            split at h2 <;> first | rfl | cases h2
          show (pur x && purL xs) = true
          rw [hx, ih h1.2]; rfl
      · cases h1
    show (pur k && purL ks) = true
    rw [hk, purL_keys h.2]; rfl
theorem k_sorted2 (F : Fm) (b0 b : Nat) (Hs H : Hp) (x : R) (u : V) (f : List Addr) (Q : VK) (E : Nat → XV → Prop) (I0 : F.Inv b0 Hs) (I : F.Inv b H) (e : ExtS F.st Hs H) (hx : F.Rs Hs x u H f) (q : wpB b (sortedK2 x) (F.QP Hs Q) E) : rSort2 X.K [u] H Q := by
  unfold sortedK2 at q
  split at q
  · rename_i kvs hv
    split at q
    · rename_i hok
      simp only [Bool.and_eq_true, decide_eq_true_eq, Bool.not_eq_true'] at hok
      obtain ⟨⟨⟨hk, hne⟩, hso⟩, hln⟩ := hok
      have z := hx.vr.nil hv
      cases z with
      | @dK a _ ks fp e1 e2 t1 =>
        cases kvs with
        | nil => cases hne
        | cons kv kvs =>
          cases ks with
          | nil => cases e2
          | cons k0 ks =>
            simp only [List.map_cons, List.cons.injEq] at e2
            rw [List.map_cons, List.all_cons, e2.1] at hk
            cases hk0 : k0.1 <;> (rw [hk0] at hk; cases hk)
      | @dT a _ ks fp ne e1 e2 t1 =>
        have e2 : kvs.map (·.1) = ks.map (fun p => keyT p.1) := e2
        have hl : kvs.length = ks.length := by have := congrArg List.length e2; simpa using this
        refine .inr ⟨a, ks, rfl, e1, by rw [← e2]; exact hso, by rw [← hl, sizeLine_eq]; exact hln, fun p bs hp hik => ?_⟩
        have rdl := isKeys_rd hik
        rw [← e2] at rdl
        obtain ⟨fs, f1, f2, f3⟩ := rdl.pick
        have rd := f3 (sortIx (kvs.map (·.1))) fun i hi => sortIx_mem hi
        have hfe : ((sortIx (kvs.map (·.1))).map fun i => fs.getD i []).flatten = [] := by
          have : purL (sortD (kvs.map (·.1))) = true := by
            have := itP_sort (xs := kvs.map (·.1))
            have h2 : purL (sortD (kvs.map (·.1))) = purL (kvs.map (·.1)) := this
            rw [h2]; exact purL_keys hk
          exact RdL.pure rd this
        rw [hfe] at rd
        rw [← e2]
        refine q (.ref p) _ [p] (I.new hp) (e.trans (.new hp)) (RsOk.fin (.lst upd_same (rd.keep fun a o ea _ => by rw [upd_ne (ne_of_none ea hp)]; exact ea)) (fun a ha => ?_) ?_ ?_)
        · have : a = p := by simpa using ha
          subst this
          exact .inl (e.2 a hp)
        · exact List.nodup_cons.mpr ⟨by simp, List.nodup_nil⟩
        · intro a ha
          have : a = p := by simpa [exs] using ha
          subst this
          exact e.2 a hp
    · exact q.elim
  · exact .inl (k_sorted F b0 b Hs H x u f Q E I0 I e hx q)
/-- f(k = e), k the only parameter -/
def BindK (K : PySem.W.Frag) (fd : FuncData) (k : Str) : Prop := ∀ (s : Shared) (u : Value), K.In s.heap → BindsTo s fd ⟨[], [(k, u)]⟩ [(k, u)]
theorem bind_kw1 {x qual : Str} {a : Arg} {body : List Stmt} {scope : Scope} (kV doc pm : Value) (an : Option Addr) (cdv ct : Value) (u : Value) :
    bindArgs (PySem.W.fnOf x qual ⟨[], [a], none, [], [], none, []⟩ body scope .none kV doc pm an cdv ct) ⟨[], [(a.arg, u)]⟩ = pure [(a.arg, u)] := by
  unfold bindArgs
  have e1 : seqItems? (PySem.W.fnOf x qual ⟨[], [a], none, [], [], none, []⟩ body scope .none kV doc pm an cdv ct).defaults = pure none := rfl
  rw [e1]
  simp [PySem.W.fnOf, List.lookup_cons]
theorem FunD.bindK {K : PySem.W.Frag} {x qual : Str} {a : Arg} {body : List Stmt} {scope : Scope} {f : Addr} {fd : FuncData} (F : FunD K x qual ⟨[], [a], none, [], [], none, []⟩ body scope [] [] f fd) : BindK K fd a.arg := by
  obtain ⟨oc, od, dV, kV, doc, pm, an, cdv, ct, osl, rfl, lk, hcd, hD, hK⟩ := F.ex
  rcases hD with ⟨_, rfl⟩ | ⟨e, _⟩
  · exact fun s u _ => .of_eq (bind_kw1 kV doc pm an cdv ct u)
  · exact absurd rfl e
theorem pe_kw1 {CX : CXT} {k : Nat} {f : Addr} {fd : FuncData} {sp : Sp} {E : L2.St → XK} {x nm : Str} {p pos kpos : Pos} {e : Expr} {t : TE} (F : FnOk X.prog X.w X.K X.mg X.base CX k f fd [nm] sp) (hr : Room k X.A) (hg : Gl X x) (hm : X.mg x = some (.ref f)) (hk : PySem.W.keepIn X.K (.ref f) = true) (hb : BindK X.K fd nm) (hx : ∀ σ, PassesAt CX X σ (E σ))
    (ha : PE X e t) (hdb : (x == ("__debug__" : Str)) = false) : PE X (.Call (.Name x p) [] [⟨some nm, e, kpos⟩] pos) (tCallSD sp [] E (tCons t tNil)) := by
  refine ⟨fun pins s σ H Q I h => ?_⟩
  refine wpAny_Call_Name_kw (ld_glob I hg hm ?_ hdb)
  refine PySem.W.callWith_KW0 (h₀ := X.base) I.ok.mod.kin hk rfl (thn ((pk_cons ha pk_nil).run pos pins s σ H _ I h) fun us s1 ⟨vs, H1, I1, r, q⟩ => ⟨I1.kIn, ?_⟩)
  have hl : vs.length = 1 := by
    have := F.len _ _ _ _ q
    simpa using this
  obtain ⟨v, rfl⟩ : ∃ v, vs = [v] := by
    match vs, hl with
    | [v], _ => exact ⟨v, rfl⟩
  obtain ⟨u, rfl, ru⟩ := r.one
  have q : sp [v] H1 Q (E σ) := q
  refine wpAny_call (codeAny_mono (F.run X.A X.stack s1 H1 ⟨[], [(nm, u)]⟩ [u] [v] Q (E σ) hr I1.env0 (hb s1 u I1.kIn) (.cons ru .nil) q) fun r s' hq => ?_)
  cases r with
  | error e => exact hx σ pins H1 s1 e s' I1 hq
  | ok fl =>
    cases fl with
    | ret u => exact I1.after hq
    | next => exact False.elim hq
    | brk => exact False.elim hq
    | cont => exact False.elim hq
theorem rgV_rd (H : Hp) (a : Int) : ∀ n : Nat, RdL H (rangeD a n) ((List.range n).map fun i => V.int (a + (i : Nat))) [] := fun n => by
  unfold rangeD
  generalize List.range n = l
  induction l with
  | nil => exact .nil
  | cons i l ih => exact RdL.cons (Rd.int _) ih
/-- list(range(a)) -/
def rgK (mk : List PyData → PyData) (x : R) : M R := match x.v with
  | .dat (.int j) => if small62 j && decide (j ≤ 16777216) then .ret (fin (mk (rangeD 0 j.toNat)) [] .all) else .fail
  | _ => .fail
def eLRg := eMon (rgK .list)
def eTRg := eMon (rgK .tuple)
theorem rg_ok {j : Int} (h : (small62 j && decide (j ≤ 16777216)) = true) : RgOk 0 j := by
  simp only [Bool.and_eq_true, decide_eq_true_eq] at h
  obtain ⟨s1, s2⟩ := small62_t h.1
  exact ⟨by decide, by decide, s1, s2, by have := h.2; omega⟩
theorem se_lrg {e : Expr} {ta : SemE} (h : PE X e (tLstRg (tRg1 (TEv XR W Γ ta)))) : PE X e (TEv XR W Γ (eLRg ta)) := PE_imp h fun σ H Q ⟨F, b, e, I, q⟩ => by
  subst e
  unfold eLRg eMon at q
  refine te_bind I .refl q fun b1 r1 x H1 f1 q1 I1 e1 rs1 => ?_
  unfold rgK at q1
  cases hv : r1.v with
  | dat d =>
    rw [hv] at q1
    cases d with
    | int j =>
      dsimp only at q1
      split at q1
      · rename_i hs
        have hx := (rs1.vr.nil hv).int_inv
        subst hx
        refine ⟨j, rfl, rg_ok hs, fun p hp => q1 (.ref p) _ [p] (I1.new hp) (e1.trans (.new hp)) (RsOk.fin (.lst upd_same ?_) (fun a ha => ?_) ?_ ?_)⟩
        · have := rgV_rd (upd H1 p (.lst (rgV 0 j))) 0 j.toNat
          unfold rgV
          rw [Int.sub_zero]
          unfold rgV at this
          rw [Int.sub_zero] at this
          exact this
        · have : a = p := by simpa using ha
          subst this
          exact .inl (e1.2 a hp)
        · exact List.nodup_cons.mpr ⟨by simp, List.nodup_nil⟩
        · intro a ha
          have : a = p := by simpa [exs] using ha
          subst this
          exact e1.2 a hp
      · exact (show False from q1).elim
    | _ => exact (show False from q1).elim
  | strm => rw [hv] at q1; exact (show False from q1).elim
  | scr => rw [hv] at q1; exact (show False from q1).elim
theorem se_trg {e : Expr} {ta : SemE} (h : PE X e (tTupRg (tRg1 (TEv XR W Γ ta)))) : PE X e (TEv XR W Γ (eTRg ta)) := PE_imp h fun σ H Q ⟨F, b, e, I, q⟩ => by
  subst e
  unfold eTRg eMon at q
  refine te_bind I .refl q fun b1 r1 x H1 f1 q1 I1 e1 rs1 => ?_
  unfold rgK at q1
  cases hv : r1.v with
  | dat d =>
    rw [hv] at q1
    cases d with
    | int j =>
      dsimp only at q1
      split at q1
      · rename_i hs
        have hx := (rs1.vr.nil hv).int_inv
        subst hx
        refine ⟨j, rfl, rg_ok hs, fun p hp => q1 (.ref p) _ [] (I1.new hp) (e1.trans (.new hp)) (RsOk.fin (.tup upd_same ?_) (fun a ha => nomatch ha) List.nodup_nil fun a ha => nomatch ha)⟩
        have := rgV_rd (upd H1 p (.tup (rgV 0 j))) 0 j.toNat
        unfold rgV
        rw [Int.sub_zero]
        unfold rgV at this
        rw [Int.sub_zero] at this
        exact this
      · exact (show False from q1).elim
    | _ => exact (show False from q1).elim
  | strm => rw [hv] at q1; exact (show False from q1).elim
  | scr => rw [hv] at q1; exact (show False from q1).elim
end
end DD
set_option Elab.async false
set_option linter.all false
set_option maxRecDepth 100000
set_option maxHeartbeats 4000000
/-! DX: the def that spoils what it is handed. -/
namespace DD
open PySem PySem.Spec PyProof.Rows L2 RZ
/-- not deeper than n, no list too long -/
def okB (p : PyData → Bool) : PyData → Bool
  | .list xs => decide (xs.length < 16777216) && xs.all p
  | .tuple xs => xs.all p
  | _ => true
def okD : Nat → PyData → Bool
  | 0, d => okB (fun _ => false) d
  | n + 1, d => okB (okD n) d
mutual
/-- spoilt: every list longer -/
def spD : PyData → PyData
  | .list xs => .list (spDL xs ++ [.str "late"])
  | .tuple xs => .tuple (spDL xs)
  | .none => .none
  | .bool b => .bool b
  | .int i => .int i
  | .str x => .str x
  | .dict kvs => .dict kvs
def spDL : List PyData → List PyData
  | [] => []
  | x :: xs => spD x :: spDL xs
end
theorem spDL_map : ∀ xs : List PyData, spDL xs = xs.map spD
  | [] => rfl
  | x :: xs => by
    show spD x :: spDL xs = _
    rw [spDL_map xs]
    rfl
/-- what is promised: the cells of what is handed may change, no other; it reads as spoilt -/
def spSp (g : List Vl → M (Vl × Fr)) : Sp := fun vs H Q _ => ∃ (v : V) (d : PyData) (fp : List Addr) (z : Vl × Fr), vs = [v] ∧ Rd H d v fp ∧ fp.Nodup ∧ g [.dat d] = .ret z ∧
  ∀ H', (∀ a o, H a = some o → a ∉ fp → H' a = some o) → (∀ a, H' a = none → H a = none) → Rd H' (spD d) v fp → Q .non H'
def spoM (n : Nat) : List Vl → M (Vl × Fr)
  | [.dat d] => if okD n d then .ret (.dat .none, .all) else .fail
  | _ => .fail
namespace Sp
variable (K : PySem.W.Frag)
def c1 : TT := fun σ H Q => tCB (rIsiT K) (tCons (tVar 0) (tCons (L2.tTup (tTys [.list, .tuple])) tNil)) σ H fun x H' => ∃ k, TruV K x H' k ∧ Q k H'
def c2 : TT := fun σ H Q => tCB (rIsi K) (tCons (tVar 0) (tCons (tC (.ty Ty.list.nm)) tNil)) σ H fun x H' => ∃ k, TruV K x H' k ∧ Q k H'
def lp (sp : Sp) (E : XK) : TS := tFor (iSeq K (tVar 0)) (gName 1) (tDrop (tCallSD sp [] (fun _ => E) (tCons (tVar 1) tNil)))
def ap : TS := tDrop (tBM K "list" rAppend (tVar 0) (tCons (tC (.str "late")) tNil))
def t (sp : Sp) (E : XK) : TS := tSeq (tIfS (c1 K) (lp K sp E) tNext) (tIfS (c2 K) (ap K) tNext)
variable {K : PySem.W.Frag}
theorem isT {H : Hp} {d : PyData} {v : V} {fp : List Addr} {σ : L2.St} {Q : Bool → Hp → Prop} (h : Rd H d v fp) (hσ : σ[0]? = some (some v)) (q : ∀ H', (H' = H ∨ ∃ p o, H p = none ∧ H' = upd H p o) → Q ([Ty.list, Ty.tuple].any (isTy d)) H') : c1 K σ H Q := by
  refine ⟨v, hσ, tTys_run ⟨by simp [sizeLine_eq], fun p hp => ?_⟩⟩
  refine ⟨v, p, _, _, _, _, rfl, upd_same, paired_tys [.list, .tuple], (h.upd hp).ty, kit_any d _, ?_⟩
  exact ⟨_, rfl, q _ (.inr ⟨p, _, hp, rfl⟩)⟩
theorem isL {H : Hp} {d : PyData} {v : V} {σ : L2.St} {Q : Bool → Hp → Prop} (h : TyX K H v (.type (tyN d))) (hσ : σ[0]? = some (some v)) (q : Q (isTy d .list) H) : c2 K σ H Q :=
  ⟨v, hσ, ⟨v, _, _, _, _, rfl, .ty _, h, kit_ty (kit_isTy d .list), _, rfl, q⟩⟩
/-- one level of it -/
theorem step {p1 : PyData → Bool} {sp : Sp} {E : XK} {v : V} {d : PyData} {fp : List Addr} {H : Hp} {Q : VK} {nx : L2.St → Hp → Prop} {b : Option V} (hsp : ∀ v H Q, (∃ (d : PyData) (fp : List Addr), Rd H d v fp ∧ fp.Nodup ∧ p1 d = true ∧ ∀ H', (∀ a o, H a = some o → a ∉ fp → H' a = some o) → (∀ a, H' a = none → H a = none) → Rd H' (spD d) v fp → Q .non H') → sp [v] H Q E)
    (h : Rd H d v fp) (nd : fp.Nodup) (ok : okB p1 d = true) (hQ : ∀ σ H', (∀ a o, H a = some o → a ∉ fp → H' a = some o) → (∀ a, H' a = none → H a = none) → Rd H' (spD d) v fp → nx σ H') : t K sp E { nx := nx, rt := Q } [some v, b] H := by
  have grow : ∀ {H' : Hp}, (H' = H ∨ ∃ p o, H p = none ∧ H' = upd H p o) → (∀ a o, H a = some o → H' a = some o) ∧ (∀ a, H' a = none → H a = none) := fun {H'} hh => by
    rcases hh with rfl | ⟨p, o, hp, rfl⟩
    · exact ⟨fun _ _ e => e, fun _ e => e⟩
    · exact ⟨fun a u e => by rw [upd_ne (ne_of_none e hp)]; exact e, fun a e => by
        by_cases c : a = p
        · subst c; exact hp
        · rw [upd_ne c] at e; exact e⟩
  refine isT h rfl fun H1 hh => ?_
  obtain ⟨g1, g2⟩ := grow hh
  have h1 : Rd H1 d v fp := h.keep fun a o e _ => g1 a o e
  -- what walks the items of xs at vs
  have walk : ∀ (xs : List PyData) (vs : List V) (g : List Addr) (J : It) (G : Hp → Prop), RdL H1 xs vs g → g.Nodup → xs.all p1 = true → (∀ a ∈ g, a ∈ fp) → Walk J vs.length G (YAt vs) → (∀ H', (∀ a o, H1 a = some o → a ∉ g → H' a = some o) → G H') → ∀ D : L2.Ends,
      (∀ σ' H', σ'[0]? = some (some v) → (∀ a o, H1 a = some o → a ∉ g → H' a = some o) → (∀ a, H' a = none → H1 a = none) → RdL H' (xs.map spD) vs g → D.nx σ' H') →
      ∃ W : Nat → Nat → L2.St → Hp → Prop, (∃ m, W 0 m [some v, b] H1) ∧ ∀ i m σ H, W i m σ H →
        (J.stop i H ∧ D.nx σ H) ∨ (J.go i H ∧ ∃ N : L2.St → Hp → Prop, (∀ σ' H', N σ' H' → ∃ m', m' < m ∧ W (i + 1) m' σ' H') ∧ ∀ x H', J.yld i H x H' → gName 1 x σ H' fun σ2 H2 => tDrop (tCallSD sp [] (fun _ => E) (tCons (tVar 1) tNil)) { D with nx := N, ct := N, bk := D.nx } σ2 H2) := fun xs vs g J G rd ndg okx sub wk hG D hD => by
    refine for_it wk (fun i σ' H' => σ'[0]? = some (some v) ∧ σ'.length = 2 ∧ (∀ a, H' a = none → H1 a = none) ∧ (∀ a o, H1 a = some o → a ∉ g → H' a = some o) ∧ ∃ g1 g2, g = g1 ++ g2 ∧ RdL H' ((xs.take i).map spD) (vs.take i) g1 ∧ RdL H' (xs.drop i) (vs.drop i) g2) ⟨rfl, rfl, fun _ e => e, fun _ _ e _ => e, [], g, rfl, .nil, rd⟩ (fun i σ' H' _ ⟨_, _, _, k, _⟩ => hG H' k) ?_ ?_
    · rintro i x σ' H' H'' hi ⟨e0, el, dm, kp, g0, g2, eg, r0, r2⟩ ⟨rfl, hx⟩
      have hix : i < xs.length := by rw [rd.length]; exact hi
      rw [← List.getElem_cons_drop hix, ← List.getElem_cons_drop hi] at r2
      cases r2 with
      | @cons _ _ _ _ f1 g3 rx rt =>
        have hv : vs[i] = x := by rw [List.getElem?_eq_getElem hi] at hx; exact Option.some.inj hx
        rw [hv] at rx
        rw [eg] at ndg
        obtain ⟨m1, nd2, m3⟩ := List.nodup_append.mp ndg
        obtain ⟨n1, n2, n3⟩ := List.nodup_append.mp nd2
        refine ⟨x, ?_, ?_⟩
        · rw [List.getElem?_set_self (by omega)]
        refine hsp x H'' _ ⟨xs[i], f1, rx, n1, List.all_eq_true.mp okx _ (List.getElem_mem hix), fun H3 k3 d3 r3 => ?_⟩
        refine ⟨by rw [List.getElem?_set_ne (by decide)]; exact e0, by rw [List.length_set]; exact el, fun a e => dm a (d3 a e), fun a o e z => k3 a o (kp a o e z) fun c => z (by rw [eg]; exact List.mem_append_right _ (List.mem_append_left _ c)), g0 ++ f1, g3, by rw [eg, List.append_assoc], ?_, rt.keep fun a o e z => k3 a o e fun c => ?_⟩
        · have hp : RdL H3 ((xs.take i).map spD) (vs.take i) g0 := r0.keep fun a o e z => k3 a o e fun c => by
            rcases z with z | ⟨us, rfl⟩
            · exact m3 a z a (List.mem_append_left _ c) rfl
            · exact (Rd.dom rx a c).2 us e
          have := hp.append (.cons r3 .nil)
          rw [List.append_nil] at this
          rw [List.take_succ, List.take_succ, List.getElem?_eq_getElem hix, List.getElem?_eq_getElem hi, hv, List.map_append]
          exact this
        · rcases z with z | ⟨us, rfl⟩
          · exact n3 a c a z rfl
          · exact (Rd.dom rx a c).2 us e
    · rintro σ' H' ⟨e0, el, dm, kp, g0, g2, eg, r0, r2⟩
      rw [← rd.length] at r0 r2
      rw [List.take_length] at r0
      rw [List.drop_length] at r2
      rw [rd.length, List.take_length] at r0
      rw [rd.length, List.drop_length] at r2
      cases r2
      rw [List.append_nil] at eg
      subst eg
      exact hD σ' H' e0 kp dm r0
  have fin2 : ∀ {dd : PyData} {σ' : L2.St} {H' : Hp}, σ'[0]? = some (some v) → TyX K H' v (.type (tyN dd)) → isTy dd .list = false → nx σ' H' → tIfS (c2 K) (ap K) tNext { nx := nx, rt := Q } σ' H' := fun {dd σ' H'} e0 ht hf hn => isL ht e0 (by rw [hf]; exact hn)
  have h1' := h1
  cases h1 with
  | @lst a xs vs g e1 t1 =>
    have okx : xs.length < 16777216 ∧ xs.all p1 = true := by
      have : (decide (xs.length < 16777216) && xs.all p1) = true := ok
      simp only [Bool.and_eq_true, decide_eq_true_eq] at this
      exact this
    obtain ⟨na, ng⟩ := List.nodup_cons.mp nd
    refine ⟨.ref a, rfl, a, rfl, .inl ⟨⟨vs, SqL.of e1⟩, ?_⟩⟩
    refine walk xs vs g (Itl K a) _ t1 ng okx.2 (fun b z => List.mem_cons_of_mem _ z) walk_list (fun H' k => SqL.of (k a _ e1 na)) _ fun σ' H' e0 kp dm rl => ?_
    have e1' := kp a _ e1 na
    refine isL (d := .list xs) (.base (.lst e1')) e0 ?_
    refine ⟨.ref a, e0, ty_list e1', a, vs, .str "late", rfl, rfl, e1', by rw [← t1.length, sizeLine_eq]; exact okx.1, ?_⟩
    refine hQ _ _ (fun b o e z => ?_) (fun b e => ?_) ?_
    · have hb : b ≠ a := fun c => z (c ▸ List.mem_cons_self)
      rw [upd_ne hb]
      exact kp b o (g1 b o e) fun c => z (List.mem_cons_of_mem _ c)
    · by_cases hb : b = a
      · subst hb; rw [upd_same] at e; cases e
      · rw [upd_ne hb] at e; exact g2 b (dm b e)
    · have r := (rl.keep (H' := upd H' a (.lst (vs ++ [.str "late"]))) fun b o e z => by
        have : b ≠ a := fun c => by
          subst c
          rcases z with z | ⟨us, rfl⟩
          · exact na z
          · rw [e1'] at e; cases e
        rw [upd_ne this]; exact e).append (.cons (.str "late") .nil)
      rw [List.append_nil, List.append_nil] at r
      have r2 : Rd (upd H' a (.lst (vs ++ [.str "late"]))) (.list (xs.map spD ++ [.str "late"])) (.ref a) (a :: g) := .lst upd_same r
      rw [← spDL_map] at r2
      exact r2
  | @tup a xs vs g e1 t1 =>
    have okx : xs.all p1 = true := ok
    refine ⟨.ref a, rfl, a, rfl, .inr ⟨⟨vs, SqT.of e1⟩, ?_⟩⟩
    have na : a ∉ fp := fun z => (RdL.dom t1 a z).2 vs e1
    refine walk xs vs fp (Itt K a) _ t1 nd okx (fun b z => z) walk_tup (fun H' k => SqT.of (k a _ e1 na)) _ fun σ' H' e0 kp dm rl => ?_
    rw [← spDL_map] at rl
    exact fin2 (dd := .tuple xs) e0 (.base (.tup (kp a _ e1 na))) rfl (hQ _ _ (fun b o e z => kp b o (g1 b o e) z) (fun b e => g2 b (dm b e)) (.tup (kp a _ e1 na) rl))
  | non => exact fin2 (dd := .none) rfl (.base .non) rfl (hQ _ _ (fun b o e _ => g1 b o e) g2 h1')
  | bl c => exact fin2 (dd := .bool c) rfl (.base (.bl c)) rfl (hQ _ _ (fun b o e _ => g1 b o e) g2 h1')
  | int i => exact fin2 (dd := .int i) rfl (.base (.int i)) rfl (hQ _ _ (fun b o e _ => g1 b o e) g2 h1')
  | str s => exact fin2 (dd := .str s) rfl (.base (.str s)) rfl (hQ _ _ (fun b o e _ => g1 b o e) g2 h1')
  | @dK a kvs ks g e1 e2 t1 => exact fin2 (dd := .dict kvs) rfl (.base (.dK e1)) rfl (hQ _ _ (fun b o e _ => g1 b o e) g2 h1')
  | @dT a kvs ks g ne e1 e2 t1 => exact fin2 (dd := .dict kvs) rfl (.base (.dT e1)) rfl (hQ _ _ (fun b o e _ => g1 b o e) g2 h1')
end Sp
/-- the meaning of spoiling, by level -/
def spoG : Nat → List Vl → M (Vl × Fr)
  | 0 => fun _ => .fail
  | n + 1 => spoM n
/-! ### the statement -/
def spoK (Γ : FEnv) (j : Nat) (d : PyData) (m : M Out) : M Out := match Γ j [.dat d] with
  | .ret _ => m
  | _ => .fail
/-- _law_spoilt(x) -/
def sSpoV (j i : Nat) : SemS := fun Γ σ => match σ[i]? with
  | some (some ⟨.dat d, .all⟩) => spoK Γ j d (.ret (.nx (σ.set i none)))
  | _ => .fail
/-- _law_spoilt(list(x[1:])), x a tuple -/
def sSpoL (j i : Nat) : SemS := fun Γ σ => match σ[i]? with
  | some (some ⟨.dat (.tuple ds), .all⟩) => spoK Γ j (.list (cutD ds (some 1) none)) (.ret (.nx (σ.set i none)))
  | _ => .fail
theorem spoK_inv {Γ : FEnv} {j : Nat} {d : PyData} {m : M Out} {b : Nat} {Q : Nat → Out → Prop} {E : Nat → XV → Prop} (h : wpB b (spoK Γ j d m) Q E) : ∃ z, Γ j [.dat d] = .ret z ∧ wpB b m Q E := by
  unfold spoK at h
  split at h
  · rename_i z e; exact ⟨z, e, h⟩
  · exact h.elim
section
variable {X : Cx} {XR : XRel} {W : WX} {Γ : FEnv}
/-- a slot's own cells change: the slot is forgotten -/
theorem InvD.spoil {F : Fm} {b : Nat} {H H' : Hp} {i : Nat} {s : Sl} {fp : List Addr} (I : F.Inv b H) (hs : F.σd[i]? = some (some s)) (hm : s.m = .all) (sub : ∀ a ∈ fp, a ∈ F.fps i ∨ (H a ≠ none ∧ F.H0 a = none ∧ ¬ stC F.st a ∧ ∀ k s', F.σd[k]? = some (some s') → a ∉ F.fps k))
    (k : ∀ a o, H a = some o → a ∉ fp → H' a = some o) (d : ∀ a, H' a = none → H a = none) (nt : ∀ a ∈ fp, ∀ us, H a ≠ some (.tup us)) (nc : ∀ a ∈ fp, ∀ c q, H a ≠ some (LamX.CodeO c q)) : InvD F.A F.H0 F.st b (F.σd.set i none) F.fps F.σ H' := by
  have J := I.wipe1 i
  have fr := I.fr i s hs
  rw [hm] at fr
  have f0 : ∀ a ∈ fp, F.H0 a = none ∧ ¬ stC F.st a ∧ ∀ k s', k ≠ i → F.σd[k]? = some (some s') → a ∉ F.fps k := fun a ha => by
    rcases sub a ha with h | ⟨_, h1, h2, h3⟩
    · exact ⟨(fr.2 a h).1, (I.own i s hs a h).2, (fr.2 a h).2⟩
    · exact ⟨h1, h2, fun k s' _ h => h3 k s' h⟩
  refine ⟨J.len, ⟨fun a o e c nb => ?_, fun a e => I.ext.2 a (d a e)⟩, I.strm.keep fun a o c e => k a o e fun z => c.elim (f0 a z).2.1 (fun ⟨q, h⟩ => nc a z a q (h ▸ e)), fun l s' h => ?_, J.own, J.fr⟩
  · exact k a o (I.ext.1 a o e c nb) fun z => by rw [(f0 a z).1] at e; cases e
  · obtain ⟨hl, h⟩ := set_none h
    obtain ⟨v, e1, e2⟩ := I.slot l s' h
    refine ⟨v, e1, ?_⟩
    cases hx : s'.v with
    | dat dd =>
      rw [hx] at e2
      exact Rd.keep e2 fun a o e z => k a o e fun c => by
        rcases z with z | ⟨us, rfl⟩
        · exact (f0 a c).2.2 l s' hl h z
        · exact nt a c us e
    | strm => rw [hx] at e2; exact e2
    | scr => rw [hx] at e2; exact e2
theorem ss_spoV {s : Stmt} {j i : Nat} {E : L2.St → XK} (h : PS X s (tDrop (tCallSD (spSp (Γ j)) [] E (tCons (tVar i) tNil)))) : PS X s (TSv XR W Γ (sSpoV j i)) := PS_imp h fun D σ H ⟨F, b, e, I, q⟩ => by
  subst e
  unfold sSpoV at q
  split at q
  · rename_i d hs
    obtain ⟨z, hz, q⟩ := spoK_inv q
    obtain ⟨v, e1, e2⟩ := I.slot i _ hs
    have fr := I.fr i _ hs
    have e2 : Rd H d v (F.fps i) := e2
    refine ⟨v, e1, v, d, F.fps i, z, rfl, e2, fr.1, hz, fun H' k dm _ => ?_⟩
    exact q _ _ _ (I.spoil hs rfl (fun a ha => .inl ha) k dm (fun a ha us => (Rd.dom e2 a ha).2 us) (Rd.noCode e2))
  · exact q.elim
theorem ss_spoL {s : Stmt} {j i : Nat} {E : L2.St → XK} (h : PS X s (tDrop (tCallSD (spSp (Γ j)) [] E (tCons (tCB (rListOf X.K) (tCons (tSl (rSlX X.K) (tVar i) (tPart (tC (.int 1))) tNoPart) tNil)) tNil)))) : PS X s (TSv XR W Γ (sSpoL j i)) := PS_imp h fun D σ H ⟨F, b, e, I, q⟩ => by
  subst e
  unfold sSpoL at q
  split at q
  · rename_i ds hs
    obtain ⟨z, hz, q⟩ := spoK_inv q
    obtain ⟨v, e1, e2⟩ := I.slot i _ hs
    have fr := I.fr i _ hs
    have e2 : Rd H (.tuple ds) v (F.fps i) := e2
    generalize hf : F.fps i = g at e2
    cases e2 with
    | @tup a _ vs _ ea t1 =>
      obtain ⟨l', f', r', c1, c2⟩ := t1.cut (HT.sIx ds.length 0 (some 1)) (HT.sIx ds.length ds.length none - HT.sIx ds.length 0 (some 1))
      have sub : ∀ x ∈ f', x ∈ F.fps i := fun x z => by rw [hf, c2]; exact sub_mid x z
      have ndg : g.Nodup := by have := fr.1; rw [hf] at this; exact this
      have nd : f'.Nodup := nodup_mid (by rw [← c2]; exact ndg)
      -- the new list, from whatever tuple it is made
      have fin : ∀ (H1 : Hp) (pt : Addr), (∀ x o, H x = some o → H1 x = some o) → (∀ x, H1 x = none → H x = none) → StOk F.st b H1 → ExtS F.st H H1 → H1 pt = some (.tup (cutV vs (some 1) none)) →
          tCallSD (spSp (Γ j)) [] E (fun σ H Q => ∀ l, H l = none → Q [.ref l] (upd H l (.lst (cutV vs (some 1) none)))) F.σ H1 (fun _ H' => D.nx F.σ H') := fun H1 pt k1 d1 s1 x1 _ l hl => by
        have rd : Rd (upd H1 l (.lst (cutV vs (some 1) none))) (.list (cutD ds (some 1) none)) (.ref l) (l :: f') := by
          refine .lst upd_same ?_
          unfold cutV cutD
          rw [← t1.length]
          exact c1.keep fun x o e _ => by
            have e := k1 x o e
            rw [upd_ne (ne_of_none e hl)]; exact e
        have hlH : H l = none := d1 l hl
        have nl : l ∉ f' := fun z => I.slotDom hs (sub l z) hlH
        have I2 : F.Inv b (upd H1 l (.lst (cutV vs (some 1) none))) := (I.grow x1 s1).new hl
        refine ⟨.ref l, _, l :: f', z, rfl, rd, List.nodup_cons.mpr ⟨nl, nd⟩, hz, fun H' k dm _ => ?_⟩
        refine q _ _ _ (InvD.spoil (fp := l :: f') I2 hs rfl (fun x hx => ?_) k dm (fun x hx us => (Rd.dom rd x hx).2 us) (Rd.noCode rd))
        rcases List.mem_cons.mp hx with rfl | hx
        · exact .inr ⟨by rw [upd_same]; simp, I.h0 hlH, I.noSt hlH, fun k s' h z => I.slotDom h z hlH⟩
        · exact .inl (sub x hx)
      refine ⟨.ref a, e1, 1, rfl, .inr ⟨a, vs, rfl, SqT.of ea, fun hw => ?_, fun hw p hp => ?_⟩⟩
      · have ec : cutV vs (some 1) none = vs := by
          unfold cutV
          rw [hw.1, hw.2]
          simp
        exact ⟨a, cutV vs (some 1) none, rfl, .inr (SqT.of (by rw [ec]; exact ea)), fin H a (fun _ _ e => e) (fun _ e => e) I.strm .refl (by rw [ec]; exact ea)⟩
      · have x1 : ExtS F.st H (upd H p (.tup (cutV vs (some 1) none))) := .new hp
        exact ⟨p, cutV vs (some 1) none, rfl, .inr (SqT.of upd_same), fin _ p (fun x o e => by rw [upd_ne (ne_of_none e hp)]; exact e) (fun x e => x1.2 x e) (I.strm.new hp) x1 upd_same⟩
  · exact q.elim
end
end DD
set_option Elab.async false
set_option linter.all false
set_option maxRecDepth 100000
set_option maxHeartbeats 4000000
/-! DS20: calls whose arguments are all by keyword, in the parameters' order turned round. -/
namespace DD
open PySem PySem.Spec PyProof.Rows L2 RZ
theorem forIn_app {α β : Type} (f : α → List α × List β → Sem (ForInStep (List α × List β))) : ∀ (post pre kws : List α), kws = pre ++ post → (∀ pre x post, kws = pre ++ x :: post → f x (pre, []) = pure (.yield (pre ++ [x], []))) → forIn post (pre, ([] : List β)) f = (pure (kws, []) : Sem _)
  | [], pre, kws, e, _ => by rw [List.forIn_nil, e, List.append_nil]
  | x :: post, pre, kws, e, h => by
    rw [List.forIn_cons, h pre x post e, pure_bind]
    exact forIn_app f post (pre ++ [x]) kws (by rw [e, List.append_assoc]; rfl) h
theorem lookup_none {α : Type} : ∀ {l : List (Str × α)} {k : Str}, k ∉ l.map (·.1) → l.lookup k = none
  | [], _, _ => rfl
  | p :: l, k, h => by
    obtain ⟨a, b⟩ := p
    rw [List.lookup_cons]
    have : (k == a) = false := beq_eq_false_iff_ne.mpr fun e => h (by rw [e]; exact List.mem_cons_self)
    rw [this]
    exact lookup_none fun z => h (List.mem_cons_of_mem _ z)
theorem lookup_mem {α : Type} : ∀ {l : List (Str × α)} {k : Str} {v : α}, (l.map (·.1)).Nodup → (k, v) ∈ l → l.lookup k = some v
  | [], _, _, _, h => by cases h
  | p :: l, k, v, nd, h => by
    obtain ⟨a, b⟩ := p
    rw [List.lookup_cons]
    rw [List.map_cons, List.nodup_cons] at nd
    rcases List.mem_cons.mp h with e | h
    · cases e
      rw [beq_self_eq_true]
    · have : (k == a) = false := beq_eq_false_iff_ne.mpr fun e => nd.1 (by rw [← e]; exact List.mem_map.mpr ⟨_, h, rfl⟩)
      rw [this]
      exact lookup_mem nd.2 h
theorem bind_kwN {x qual : Str} {as : List Arg} {body : List Stmt} {scope : Scope} (kV doc pm : Value) (an : Option Addr) (cdv ct : Value) (kws : List (Str × Value))
    (h1 : ∀ p ∈ kws, p.1 ∈ as.map (·.arg)) (hnd : (kws.map (·.1)).Nodup) (hall : ∀ n ∈ as.map (·.arg), (kws.lookup n).isSome = true) :
    bindArgs (PySem.W.fnOf x qual ⟨[], as, none, [], [], none, []⟩ body scope .none kV doc pm an cdv ct) ⟨[], kws⟩ = pure ((as.map (·.arg)).filterMap fun n => (kws.lookup n).map (n, ·)) := by
  unfold bindArgs
  have e1 : seqItems? (PySem.W.fnOf x qual ⟨[], as, none, [], [], none, []⟩ body scope .none kV doc pm an cdv ct).defaults = pure none := rfl
  rw [e1]
  simp only [PySem.W.fnOf, List.map_nil, List.nil_append, List.zip_nil_right]
  rw [forIn_app _ kws [] kws rfl ?hh]
  case hh =>
    intro pre y post e
    have hy : y ∈ kws := by rw [e]; exact List.mem_append_right _ List.mem_cons_self
    have c1 : ((as.map (fun x => x.arg)).contains y.fst || ([] : List Str).contains y.fst) = true := by
      rw [Bool.or_eq_true]
      exact .inl (List.contains_iff_mem.mpr (h1 y hy))
    have c2 : (List.lookup y.fst pre).isSome = false := by
      rw [lookup_none]
      · rfl
      · rw [e, List.map_append, List.map_cons] at hnd
        intro z
        exact (List.nodup_append.mp hnd).2.2 _ z _ List.mem_cons_self rfl
    dsimp only
    rw [if_pos c1, if_neg (by rw [c2]; simp)]
  have hm : (List.filter (fun n => (List.lookup n kws).isNone) (as.map (fun x => x.arg))) = [] := by
    rw [List.filter_eq_nil_iff]
    intro n hn
    have := hall n hn
    rw [Option.isNone_iff_eq_none]
    intro z
    rw [z] at this
    cases this
  have ht : List.take as.length (as.map (fun x => x.arg)) = as.map (fun x => x.arg) := List.take_of_length_le (by rw [List.length_map]; exact Nat.le_refl _)
  simp [hm, ht]
/-- all by keyword, turned round -/
def BindR (K : PySem.W.Frag) (fd : FuncData) (ps : List Str) : Prop := ∀ (s : Shared) (us : List Value), K.In s.heap → us.length = ps.length → BindsTo s fd ⟨[], ps.reverse.zip us⟩ (ps.zip us.reverse)
theorem zip_snoc {α β : Type} : ∀ {xs : List α} {ys : List β} {x : α} {y : β}, xs.length = ys.length → (xs ++ [x]).zip (ys ++ [y]) = xs.zip ys ++ [(x, y)]
  | [], [], _, _, _ => rfl
  | a :: xs, b :: ys, x, y, h => by
    show (a, b) :: (xs ++ [x]).zip (ys ++ [y]) = _
    rw [zip_snoc (by simpa using h)]
    rfl
  | [], _ :: _, _, _, h => by cases h
  | _ :: _, [], _, _, h => by cases h
theorem zip_rev2 {α β : Type} : ∀ {xs : List α} {ys : List β}, xs.length = ys.length → xs.reverse.zip ys.reverse = (xs.zip ys).reverse
  | [], [], _ => rfl
  | x :: xs, y :: ys, h => by
    rw [List.reverse_cons, List.reverse_cons, zip_snoc (by rw [List.length_reverse, List.length_reverse]; simpa using h), zip_rev2 (by simpa using h), List.zip_cons_cons, List.reverse_cons]
  | [], _ :: _, h => by cases h
  | _ :: _, [], h => by cases h
theorem zip_rev {α β : Type} {xs : List α} {ys : List β} (h : xs.length = ys.length) : xs.reverse.zip ys = (xs.zip ys.reverse).reverse := by
  have := zip_rev2 (xs := xs) (ys := ys.reverse) (by rw [List.length_reverse]; exact h)
  rw [List.reverse_reverse] at this
  exact this
theorem zip_lookup {L : List (Str × Value)} (nd : (L.map (·.1)).Nodup) : ∀ {ps : List Str} {us : List Value}, ps.length = us.length → (∀ p ∈ ps.zip us, p ∈ L) → (ps.filterMap fun n => (L.lookup n).map (n, ·)) = ps.zip us
  | [], [], _, _ => rfl
  | p :: ps, u :: us, hl, h => by
    have h1 : L.lookup p = some u := lookup_mem nd (h (p, u) List.mem_cons_self)
    rw [List.filterMap_cons, h1, List.zip_cons_cons]
    show (p, u) :: _ = _
    rw [zip_lookup nd (by simpa using hl) fun q hq => h q (List.mem_cons_of_mem _ hq)]
  | [], _ :: _, hl, _ => by cases hl
  | _ :: _, [], hl, _ => by cases hl
theorem FunD.bindR {K : PySem.W.Frag} {x qual : Str} {as : List Arg} {body : List Stmt} {scope : Scope} {f : Addr} {fd : FuncData} (F : FunD K x qual ⟨[], as, none, [], [], none, []⟩ body scope [] [] f fd) (nd : (as.map (·.arg)).Nodup) : BindR K fd (as.map (·.arg)) := by
  obtain ⟨oc, od, dV, kV, doc, pm, an, cdv, ct, osl, rfl, lk, hcd, hD, hK⟩ := F.ex
  rcases hD with ⟨_, rfl⟩ | ⟨e, _⟩
  · intro s us _ hl
    have el : (as.map (·.arg)).length = us.length := hl.symm
    have ez := zip_rev (xs := as.map (·.arg)) (ys := us) el
    have km : (((as.map (·.arg)).zip us.reverse).reverse.map (·.1)).Nodup := by
      rw [List.map_reverse, List.map_fst_zip (by rw [List.length_reverse]; omega)]
      unfold List.Nodup
      rw [List.pairwise_reverse]
      exact nd.imp Ne.symm
    have hall : ∀ p ∈ (as.map (·.arg)).zip us.reverse, p ∈ ((as.map (·.arg)).zip us.reverse).reverse := fun p hp => List.mem_reverse.mpr hp
    have hz := zip_lookup km (ps := as.map (·.arg)) (us := us.reverse) (by rw [List.length_reverse]; exact el) hall
    refine .of_eq ?_
    rw [ez, bind_kwN kV doc pm an cdv ct _ (fun p hp => (List.of_mem_zip (List.mem_reverse.mp hp)).1) km fun n hn => ?_, hz]
    · obtain ⟨i, hi, rfl⟩ := List.getElem_of_mem hn
      have hi2 : i < us.reverse.length := by rw [List.length_reverse, ← el]; exact hi
      have : ((as.map (·.arg))[i], us.reverse[i]) ∈ (as.map (·.arg)).zip us.reverse := List.mem_iff_getElem.mpr ⟨i, by rw [List.length_zip]; omega, by rw [List.getElem_zip]⟩
      rw [lookup_mem km (hall _ this)]
      rfl
  · exact absurd rfl e
theorem bindK_ofR {K : PySem.W.Frag} {fd : FuncData} {k : Str} (h : BindR K fd [k]) : BindK K fd k := fun s u X => h s [u] X rfl
def tCallR (sp : Sp) (E : L2.St → XK) (t : TA) : TE := fun σ H Q => t σ H fun vs H1 => sp vs.reverse H1 Q (E σ)
theorem vals_rev {vs : List V} {us : List Value} (h : L2.Vals vs us) : L2.Vals vs.reverse us.reverse := by
  induction h with
  | nil => exact .nil
  | cons r t ih =>
    rw [List.reverse_cons, List.reverse_cons]
    exact ih.append (.cons r .nil)
theorem pe_kwR {X : Cx} {CX : CXT} {k : Nat} {f : Addr} {fd : FuncData} {ps : List Str} {sp : Sp} {E : L2.St → XK} {x : Str} {p pos : Pos} {kws : List Keyword} {t : TA} (F : FnOk X.prog X.w X.K X.mg X.base CX k f fd ps sp) (hr : Room k X.A) (hg : Gl X x) (hm : X.mg x = some (.ref f)) (hk : PySem.W.keepIn X.K (.ref f) = true) (hb : BindR X.K fd ps) (hx : ∀ σ, PassesAt CX X σ (E σ))
    (ha : PK X kws t) (hall : (backToKw pos (keywordEach kws X.env)).all (·.1.isSome) = true) (hks : (backToKw pos (keywordEach kws X.env)).filterMap (·.1) = ps.reverse) (hpl : (backToKw pos (keywordEach kws X.env)).any (·.1.isNone) = false)
    (hdb : (x == ("__debug__" : Str)) = false) : PE X (.Call (.Name x p) [] kws pos) (tCallR sp E t) := by
  refine ⟨fun pins s σ H Q I h => ?_⟩
  refine wpAny_Call_Name_kw (ld_glob I hg hm ?_ hdb)
  refine PySem.W.callWith_KW0 (h₀ := X.base) I.ok.mod.kin hk hall (thn (ha.run pos pins s σ H _ I h) fun us s1 ⟨vs, H1, I1, r, q⟩ => ⟨I1.kIn, ?_⟩) (by rw [hpl]; rfl)
  rw [hks]
  have hl : vs.length = ps.length := by
    have := F.len _ _ _ _ q
    rwa [List.length_reverse] at this
  have q : sp vs.reverse H1 Q (E σ) := q
  refine wpAny_call (codeAny_mono (F.run X.A X.stack s1 H1 ⟨[], ps.reverse.zip us⟩ us.reverse vs.reverse Q (E σ) hr I1.env0 (hb s1 us I1.kIn (by rw [← r.length]; exact hl)) (vals_rev r) q) fun r s' hq => ?_)
  cases r with
  | error e => exact hx σ pins H1 s1 e s' I1 hq
  | ok fl =>
    cases fl with
    | ret u => exact I1.after hq
    | next => exact False.elim hq
    | brk => exact False.elim hq
    | cont => exact False.elim hq
theorem PK_imp {X : Cx} {kws : List Keyword} {t t' : TA} (h : PK X kws t) (k : ∀ σ H Q, t' σ H Q → t σ H Q) : PK X kws t' := ⟨fun pos pins s σ H Q I q => h.run pos pins s σ H Q I (k σ H Q q)⟩
section
variable {X : Cx} {XR : XRel} {W : WX} {Γ : FEnv}
theorem sk_nil : PK X [] (TAv XR W Γ aNil) := PK_imp pk_nil fun σ H Q ⟨F, b, e, I, q⟩ => q [] H [] I .refl .nil
theorem sk_cons {kws : List Keyword} {ta : SemE} {tr : SemA} (h : PK X kws (tCons (TEv XR W Γ ta) (TAv XR W Γ tr))) : PK X kws (TAv XR W Γ (aCons ta tr)) :=
  PK_imp h fun σ H Q ⟨F, b, e, I, q⟩ => by
    subst e
    unfold aCons at q
    refine te_bind I .refl q fun b1 r1 x H1 f1 q1 I1 e1 rs1 => ?_
    refine ta_bind I1 e1 q1 fun b2 rs vs H2 fs q2 I2 e2 rs2 => ?_
    exact q2 (x :: vs) H2 (f1 :: fs) I2 (e1.trans e2) (.cons (rs1.grow I I1.strm e2) (rs2.base e1) fun a ha g hg hx => let ⟨_, z⟩ := rs2.srcIn hg hx; rs1.apart1 I ha z)
theorem VRL.app {st : StT} {H : Hp} {xs ys : List Vl} {vs us : List V} {fs gs : List (List Addr)} (h : VRL st H xs vs fs) (k : VRL st H ys us gs) : VRL st H (xs ++ ys) (vs ++ us) (fs ++ gs) := by
  induction h with
  | nil => exact k
  | cons r t ih => exact .cons r ih
theorem VRL.rev {st : StT} {H : Hp} {xs : List Vl} {vs : List V} {fs : List (List Addr)} (h : VRL st H xs vs fs) : VRL st H xs.reverse vs.reverse fs.reverse := by
  induction h with
  | nil => exact .nil
  | cons r t ih =>
    rw [List.reverse_cons, List.reverse_cons, List.reverse_cons]
    exact ih.app (.cons r .nil)
/-- f(k = v, ..), the parameters' order turned round -/
def eCallR (f : Nat) (a : SemA) : SemE := fun Γ σ => do
  let rs ← a Γ σ
  let z ← Γ f (rs.map (·.v)).reverse
  .ret (finV z.1 (tsOf rs) z.2)
theorem sp_callR {F : Fm} {b0 b : Nat} {Hs H : Hp} {rs : List R} {vs : List V} {fs : List (List Addr)} {g : List Vl → M (Vl × Fr)} {Q : VK} {n : Nat} (hg : ∀ xs, xs.length ≠ n → g xs = .fail) (I0 : F.Inv b0 Hs) (I : F.Inv b H) (e : ExtS F.st Hs H) (h : RsAll F Hs H rs vs fs)
    (q : wpB b (g (rs.map (·.v)).reverse >>= fun z => M.ret (finV z.1 (tsOf rs) z.2)) (F.QP Hs Q) (F.EP XR W Hs)) : SpG XR n g vs.reverse H Q fun cls d H' => W cls d F.σ H' := by
  have hn : vs.reverse.length = n := by
    by_cases hn : vs.reverse.length = n
    · exact hn
    · rw [hg _ (by rw [List.length_reverse, List.length_map, h.len]; rw [List.length_reverse] at hn; exact hn)] at q
      exact (show False from q).elim
  refine ⟨hn, (· ∈ fs.flatten), F.st, b, _, fs.reverse, h.vrl.rev, fun f hf a ha => ⟨List.mem_flatten.mpr ⟨f, List.mem_reverse.mp hf, ha⟩, (h.own I0 a (List.mem_flatten.mpr ⟨f, List.mem_reverse.mp hf, ha⟩)).2⟩, I.strm, ?_⟩
  refine wpB_mono (fun b' z k v H' fp e' s' vr own fr fr2 => ?_) (fun b' x k cls d H' e' s' xr => ?_) _ _ ((wpB_bind _ _).mp q)
  · exact k v H' fp (I.grow e' s') (e.trans e') (call_rs I e vr h.src own fr fr2)
  · exact k cls d H' (I.grow e' s') (e.trans e') xr
theorem se_callR {e : Expr} {ta : SemA} {i n : Nat} (hg : ∀ xs, xs.length ≠ n → Γ i xs = .fail) (h : PE X e (tCallR (SpG XR n (Γ i)) (fun σ cls d H' => W cls d σ H') (TAv XR W Γ ta))) : PE X e (TEv XR W Γ (eCallR i ta)) :=
  PE_imp h fun σ H Q ⟨F, b, e, I, q⟩ => by
    subst e
    unfold eCallR at q
    refine ta_bind I .refl q fun b1 rs vs H1 fs q1 I1 e1 rs1 => ?_
    exact sp_callR hg I I1 e1 rs1 q1
end
end DD
set_option Elab.async false
set_option linter.all false
set_option maxRecDepth 100000
set_option maxHeartbeats 4000000
/-! DS21: return of a choice; return tuple(x): what is one's own stays so. -/
namespace DD
open PySem PySem.Spec PyProof.Rows L2 RZ
/-- return tuple(x) -/
def sRetT (i : Nat) : SemS := fun _ σ => match σ[i]? with
  | some (some ⟨.dat (.list xs), m⟩) => .ret (.rt (.dat (.tuple xs)) (match m with
    | .all => .all
    | _ => .no) (σ.set i none))
  | some (some ⟨.dat (.tuple xs), m⟩) => .ret (.rt (.dat (.tuple xs)) m (σ.set i none))
  | _ => .fail
section
variable {X : Cx} {XR : XRel} {W : WX} {Γ : FEnv}
theorem retV_imp {i : Nat} : ∀ D σ H, TSv XR W Γ (sRetV i) D σ H → L2.tRet (tVar i) D σ H := fun D σ H ⟨F, b, e, I, q⟩ => by
  subst e
  unfold sRetV at q
  cases hs : F.σd[i]? with
  | none => rw [hs] at q; exact q.elim
  | some o =>
    cases o with
    | none => rw [hs] at q; exact q.elim
    | some s =>
      rw [hs] at q
      obtain ⟨v, e1, e2⟩ := I.slot i s hs
      exact ⟨v, e1, q _ _ v H _ (I.wipe1 i) e2 (I.own i s hs) (I.fr i s hs).1 (fun a ha => ((I.fr i s hs).2 a ha).1) fun j s' h => let ⟨hj, h'⟩ := set_none h; ⟨fun a ha hf => ((I.fr j s' h').2 a ha).2 i s (Ne.symm hj) hs hf, fun a ha hf => ((I.fr i s hs).2 a ha).2 j s' hj h' hf⟩⟩
theorem ret_imp {te : SemE} : ∀ D σ H, TSv XR W Γ (sRet te) D σ H → L2.tRet (TEv XR W Γ te) D σ H := fun D σ H ⟨F, b, e, I, q⟩ => by
  subst e
  exact ts_bindE I q fun b' r v H' fp z I' e' rs => z _ _ v H' fp (I'.demote r.t) rs.vr (rs.own I) rs.fr.1 (fun a ha => I.h0 (rs.fr.2 a ha)) fun j s h => ⟨fun a ha hf => (rs.src a hf).apart I h ha, fun a ha hf => let ⟨s0, e0, _⟩ := demote_some h; I.slotDom e0 hf (rs.fr.2 a ha)⟩
/-- what tuple(x) reads -/
def rTupL (K : PySem.W.Frag) : List V → Hp → VK → Prop := fun xs H Q => ∃ p ys, xs = [.ref p] ∧ ((SqL K H p ys ∧ ∀ l, H l = none → Q (.ref l) (upd H l (.tup ys))) ∨ (SqT K H p ys ∧ Q (.ref p) H))
theorem retT_imp {K : PySem.W.Frag} {i : Nat} : ∀ D σ H, TSv XR W Γ (sRetT i) D σ H → L2.tRet (tCB (rTupL K) (tCons (tVar i) tNil)) D σ H := fun D σ H ⟨F, b, e, I, q⟩ => by
  subst e
  unfold sRetT at q
  split at q
  · rename_i xs m hs
    obtain ⟨v, e1, e2⟩ := I.slot i _ hs
    have e2 : Rd H (.list xs) v (F.fps i) := e2
    generalize hf : F.fps i = g0 at e2
    cases e2 with
    | @lst a _ vs g ea t1 =>
      have fr := I.fr i _ hs
      rw [hf] at fr
      have own := I.own i _ hs
      rw [hf] at own
      refine ⟨.ref a, e1, a, vs, rfl, .inl ⟨SqL.of ea, fun p hp => ?_⟩⟩
      have ex : ∀ x ∈ exs (match m with
        | .all => Fr.all
        | _ => .no) g, x ∈ exs m (a :: g) := fun x hx => by
        cases m with
        | all => exact List.mem_cons_of_mem _ hx
        | top => cases hx
        | no => cases hx
      refine q _ _ (.ref p) _ g ((I.wipe1 i).new hp) (.tup upd_same (t1.keep fun x o ex _ => by rw [upd_ne (ne_of_none ex hp)]; exact ex)) (fun x hx => own x (List.mem_cons_of_mem _ hx)) ?_ (fun x hx => (fr.2 x (ex x hx)).1) fun j s' h => ?_
      · cases m with
        | all => exact (List.nodup_cons.mp fr.1).2
        | top => trivial
        | no => trivial
      · obtain ⟨hj, h'⟩ := set_none h
        exact ⟨fun x hx hg => ((I.fr j s' h').2 x hx).2 i _ (Ne.symm hj) hs (by rw [hf]; exact List.mem_cons_of_mem _ hg), fun x hx hg => (fr.2 x (ex x hx)).2 j s' hj h' hg⟩
  · rename_i xs m hs
    obtain ⟨v, e1, e2⟩ := I.slot i _ hs
    have e2 : Rd H (.tuple xs) v (F.fps i) := e2
    have e3 := e2
    generalize F.fps i = g0 at e3
    cases e3 with
    | @tup a _ vs _ ea t1 =>
      exact ⟨.ref a, e1, a, vs, rfl, .inr ⟨SqT.of ea, q _ _ (.ref a) H _ (I.wipe1 i) e2 (I.own i _ hs) (I.fr i _ hs).1 (fun a ha => ((I.fr i _ hs).2 a ha).1) fun j s' h => let ⟨hj, h'⟩ := set_none h; ⟨fun a ha hf => ((I.fr j s' h').2 a ha).2 i _ (Ne.symm hj) hs hf, fun a ha hf => ((I.fr i _ hs).2 a ha).2 j s' hj h' hf⟩⟩⟩
  · exact q.elim
theorem ss_retIf {s : Stmt} {tc : SemT} {ta tb : TE} {f g : SemS} (h : PS X s (L2.tRet (L2.tIf (TTv XR W Γ tc) ta tb))) (ka : ∀ D σ H, TSv XR W Γ f D σ H → L2.tRet ta D σ H) (kb : ∀ D σ H, TSv XR W Γ g D σ H → L2.tRet tb D σ H) : PS X s (TSv XR W Γ (sIf tc f g)) := PS_imp h fun D σ H ⟨F, b, e, I, q⟩ => by
  subst e
  refine ts_bindT I q fun b' c H' z I' e' => ?_
  cases c with
  | true => exact ka D F.σ H' ⟨F, b', rfl, I', z⟩
  | false => exact kb D F.σ H' ⟨F, b', rfl, I', z⟩
end
end DD
set_option Elab.async false
set_option linter.all false
set_option maxRecDepth 100000
set_option maxHeartbeats 4000000
/-! DS22: the empty dict: made, copied by its items, its items listed. -/
namespace DD
open PySem PySem.Spec PyProof.Rows L2 RZ
abbrev rE : R := ⟨.dat (.dict []), [], .all⟩
/-- {} -/
def eDNew : SemE := fun _ _ => .ret rE
/-- dict([.. for .. in x]), x an empty dict -/
def eDLc (i : Nat) : SemE := fun _ σ => match σ[i]? with
  | some (some ⟨.dat (.dict []), _⟩) => .ret rE
  | _ => .fail
/-- list(e.items()), e an empty dict -/
def itemsK (x : R) : M R := match x.v with
  | .dat (.dict []) => .ret (rP (.list []))
  | _ => .fail
def eItems := eMon itemsK
section
variable {X : Cx} {XR : XRel} {W : WX} {Γ : FEnv}
theorem rs_new {F : Fm} {Hs H' : Hp} {d : PyData} {p : Addr} (h : Rd H' d (.ref p) [p]) (n : Hs p = none) : F.Rs Hs ⟨.dat d, [], .all⟩ (.ref p) H' [p] :=
  ⟨h, fun a ha => by
    have : a = p := by simpa using ha
    subst this
    exact .inl n, List.nodup_cons.mpr ⟨by simp, List.nodup_nil⟩, fun a ha => by
    have : a = p := by simpa [exs] using ha
    subst this
    exact n⟩
theorem se_dnew {e : Expr} (h : PE X e tDNewK) : PE X e (TEv XR W Γ eDNew) := PE_imp h fun σ H Q ⟨F, b, e, I, q⟩ => by
  subst e
  intro p hp
  exact q (.ref p) _ [p] (I.new hp) (.new hp) (rs_new (.dK upd_same rfl .nil) hp)
theorem rd_dict0 {H : Hp} {v : V} {fp : List Addr} (h : Rd H (.dict []) v fp) : ∃ a, v = .ref a ∧ H a = some (.dK []) ∧ fp = [a] := by
  cases h with
  | @dK a _ ks f e1 e2 t1 =>
    have : ks = [] := by
      cases ks with
      | nil => rfl
      | cons _ _ => cases e2
    subst this
    cases t1
    exact ⟨a, rfl, e1, rfl⟩
  | @dT a _ ks f ne e1 e2 t1 =>
    cases ks with
    | nil => exact absurd rfl ne
    | cons _ _ => cases e2
/-- what dict(a list of pairs) reads -/
def rDictP (K : PySem.W.Frag) : List V → Hp → VK → Prop := fun xs H Q => ∃ (a : Addr) (ps : List Addr) (kvs : List (Key × V)), xs = [.ref a] ∧ SqL K H a (ps.map V.ref) ∧ Paired (fun p kv => SqT K H p [kV kv.1, kv.2]) ps kvs ∧ ∀ p, H p = none → Q (.ref p) (upd H p (.dK (mergeK [] kvs)))
theorem dlc_imp {K : PySem.W.Frag} {i : Nat} {g : TG} {tt : TT} {te : TE} {own : List Nat} : ∀ σ H Q, TEv XR W Γ (eDLc i) σ H Q → tCB (rDictP K) (tCons (tLockE (tLc (iKeys (tVar i)) g tt te own)) tNil) σ H Q := fun σ H Q ⟨F, b, e, I, q⟩ => by
  subst e
  unfold eDLc at q
  split at q
  · rename_i m hs
    obtain ⟨v, e1, e2⟩ := I.slot i _ hs
    obtain ⟨a, rfl, ea, _⟩ := rd_dict0 (show Rd H (.dict []) v (F.fps i) from e2)
    refine ⟨a, _, ea, trivial, fun od => ?_⟩
    refine ⟨.ref a, e1, a, od, rfl, .inl ⟨[], upd_same, fun D hD => ?_⟩⟩
    have hDa : D ≠ a := fun c => by subst c; rw [upd_same] at hD; cases hD
    have hDH : H D = none := by rw [upd_ne hDa] at hD; exact hD
    refine ⟨fun i m H' => H' = upd (upd H a (.frz od (.dK []))) D (.lst []), ⟨0, rfl⟩, fun k m H' eH => .inl ⟨?_, ?_⟩⟩
    · subst eH
      exact ⟨by rw [upd_ne (Ne.symm hDa)]; exact upd_same, Nat.zero_le _⟩
    · subst eH
      refine ⟨by rw [upd_ne (Ne.symm hDa)]; exact upd_same, ?_⟩
      have eH : upd (upd (upd H a (.frz od (.dK []))) D (.lst [])) a (.dK []) = upd H D (.lst []) := by
        funext x
        by_cases hx : x = a
        · subst hx; rw [upd_same, upd_ne (Ne.symm hDa), ea]
        · rw [upd_ne hx]
          by_cases hx2 : x = D
          · subst hx2; rw [upd_same, upd_same]
          · rw [upd_ne hx2, upd_ne hx2, upd_ne hx]
      rw [eH]
      refine ⟨D, [], [], rfl, SqL.of upd_same, .nil, fun p hp => ?_⟩
      have hpD : p ≠ D := fun c => by subst c; rw [upd_same] at hp; cases hp
      have hpH : H p = none := by rw [upd_ne hpD] at hp; exact hp
      exact q (.ref p) _ [p] ((I.new hDH).new hp) ((ExtS.new hDH).trans (.new hp)) (rs_new (.dK upd_same rfl .nil) hpH)
  · exact q.elim
theorem se_items {e : Expr} {ta : SemE} (h : PE X e (LiI.tListItems (TEv XR W Γ ta))) : PE X e (TEv XR W Γ (eItems ta)) := PE_imp h fun σ H Q ⟨F, b, e, I, q⟩ => by
  subst e
  unfold eItems eMon at q
  refine te_bind I .refl q fun b1 r1 x H1 f1 q1 I1 e1 rs1 => ?_
  unfold itemsK at q1
  split at q1
  · rename_i hv
    obtain ⟨a, rfl, ea, _⟩ := rd_dict0 (rs1.vr.nil hv)
    refine ⟨a, [], rfl, ea, fun H' p ts kp hp _ _ hl pr => ?_⟩
    cases pr
    have x1 : ExtS F.st H1 H' := ⟨fun b o e _ _ => kp b o e, fun b n => by
      cases hb : H1 b with
      | none => rfl
      | some o => rw [kp b o hb] at n; cases n⟩
    exact q1 (.ref p) H' [p] (I1.grow x1 (I1.strm.keep fun b o _ e => kp b o e)) (e1.trans x1) (rs_new (.lst hl .nil) (e1.2 p hp))
  · exact q1.elim
end
end DD
set_option Elab.async false
set_option linter.all false
set_option maxRecDepth 100000
set_option maxHeartbeats 4000000
/-! DS23: enumerate(a tuple). -/
namespace DD
section
open PySem
open Sem (wp)
open AutoSeq1 (wpAny_loadPart')
/-- a tuple's iterator at its start -/
abbrev tupIt (l : Addr) : Obj := { cls := .type "tuple_iterator", data := .fields #[.ref l, .int 0 0] }
abbrev enuOf (i : Addr) : Obj := { cls := .type "enumerate", data := .fields #[.none, .bool false, .ref i, rawInt 0, .none, .none] }
theorem meets_enuT (l : Addr) (its : Array Value) (n : Nat) (dc : Option Addr) (sl : Array (Option Value)) :
    Meets (Builtin.«enumerate.__new__» ⟨[.type "enumerate", .ref l], []⟩) (fun _ R s =>
      s.heap.get? l = some { cls := .type "tuple", dict := dc, data := .seq its n, slots := sl } ∧ R (.ok (.ret (.ref (s.heap.push (tupIt l)).objs.size))) { s with heap := (s.heap.push (tupIt l)).push (enuOf s.heap.objs.size) }) :=
  .of_wp fun prog w A R s h => by
    obtain ⟨hp, g, d, tk, os⟩ := s
    obtain ⟨ht, h⟩ := h
    have e0 := sub_enumerate
    have hT : Heap.IsTuple (Shared.heap ⟨hp, g, d, tk, os⟩) l its := ⟨_, ht, rfl, n, rfl⟩
    wp_walk using wpAny_loadPart' ht
    refine wpAny_stack_any fun _ => wpAny_pure ?_
    split
    · rename_i c _ _ _ _ _
      cases (c == Value.type "enumerate") <;> (wp_walk using wpAny_loadPart' ht, wpAny_pyIter_tuple hT; exact ⟨_, rfl, h⟩)
    · wp_walk using wpAny_loadPart' ht, wpAny_pyIter_tuple hT
      exact ⟨_, rfl, h⟩
variable {prog : Program} {w : World} {A : Around} {E : Value → Shared → Prop} {s : Shared}
theorem call_enuT {l : Addr} {its : Array Value} {Q : Value → Shared → Prop} (hT : s.heap.IsTuple l its)
    (h : ∀ h', IsEnum h' (s.heap.objs.size + 1) s.heap.objs.size 0 .none → h'.IsTupleIter s.heap.objs.size l 0 → h'.objs.size = s.heap.objs.size + 2 → (∀ b o, s.heap.get? b = some o → h'.get? b = some o) → Q (.ref (s.heap.objs.size + 1)) { s with heap := h' }) :
    wpAny (model prog w) A (call (.type "enumerate") [.ref l]) Q E s := by
  obtain ⟨⟨c, dc, dt, sl⟩, hl, hc, n, hd⟩ := hT
  replace hc : c = .type "tuple" := hc
  replace hd : dt = .seq its n := hd
  subst hc hd
  refine callType_new F.called_enumerate (by decide) (F.typeCall_enumerate_1 _) (F.newCall_enumerate_1 _) (fun obj => F.args_object_init_2 obj _) F.entry_enumerate_new (meets_enuT l its n dc sl) ⟨hl, ?_⟩
  have z : (s.heap.push (tupIt l)).objs.size = s.heap.objs.size + 1 := Heap.size_push ..
  show _ ∧ _
  rw [z]
  have he : IsEnum ((s.heap.push (tupIt l)).push (enuOf s.heap.objs.size)) (s.heap.objs.size + 1) s.heap.objs.size 0 .none := by
    have q := Heap.get?_push_size (s.heap.push (tupIt l)) (o := enuOf s.heap.objs.size) rfl
    rw [z] at q
    exact q
  exact ⟨⟨_, he, rfl⟩, h _ he ⟨_, Heap.get?_push_of_some _ (Heap.get?_push_size _ rfl), rfl, rfl⟩ (by rw [Heap.size_push, z]) fun b o x => Heap.get?_push_of_some _ (Heap.get?_push_of_some _ x)⟩
end
open PySem PySem.Spec PyProof.Rows L2 RZ
/-- the tuple at a, each item in a new pair -/
def ItE (K : PySem.W.Frag) (a : Addr) : It :=
  ⟨fun i H => ∃ (xs : List V) (x : V), SqT K H a xs ∧ xs[i]? = some x, fun i H v H' => ∃ T x, v = .ref T ∧ H T = none ∧ H' = upd H T (.tup [.int (i : Nat), x]) ∧ ∀ xs, SqT K H a xs → xs[i]? = some x, fun i H => ∃ xs : List V, SqT K H a xs ∧ xs.length ≤ i⟩
theorem turn_enuT {P : Program} {w : World} {K : PySem.W.Frag} {elts : List Expr} {kk : Nat} {tpos : Pos} (a e it : Addr) :
    Turn P w K (.Tuple elts kk tpos) (ItE K a) [e, it] e (fun i h => (∃ old, IsEnum h e it ((i : Nat) : Int) old) ∧ h.IsTupleIter it a i ∧ e ≠ it) where
  mem := by simp
  obj := fun i h st b hb => by
    obtain ⟨⟨old, he⟩, ⟨o, ho, hc, hd⟩, _⟩ := st
    rcases (by simpa using hb : b = e ∨ b = it) with z | z
    · rw [z]; exact ⟨_, he, fun v q => nomatch q⟩
    · rw [z]; exact ⟨o, ho, fun v q => by rw [hd] at q; cases q⟩
  keep := fun i h h' ⟨⟨old, he⟩, hi, hne⟩ k => ⟨⟨old, k e (by simp) _ he⟩, hi.at fun o q => k it (by simp) o q, hne⟩
  item := by
    intro X hP hw hK hc i pins s σ H E I hf st hg
    subst hP hw hK
    obtain ⟨⟨old, he⟩, hit, hne⟩ := st
    obtain ⟨xs, x, hq, hx⟩ := hg
    obtain ⟨its, rv, p, hz⟩ := I.tuple hq
    have pT : s.heap.IsTuple a its.toArray := p
    obtain ⟨u, hu, ru⟩ := rv.get hx
    have le : e < s.heap.objs.size := Heap.lt_size he
    have li : it < s.heap.objs.size := by obtain ⟨_, q, _⟩ := hit; exact Heap.lt_size q
    have ae : e ≠ a := fun c => by
      obtain ⟨o, ho, hc, _⟩ := id pT
      rw [← c, show s.heap.get? e = _ from he] at ho
      cases ho
      revert hc
      simp
    have ai : a ≠ it := fun c => by
      obtain ⟨o, ho, hc, _⟩ := id pT
      obtain ⟨o', ho', hc', _⟩ := id hit
      rw [c, ho'] at ho
      cases ho
      rw [hc'] at hc
      revert hc
      simp
    have hil : i < its.toArray.size := by
      have : i < its.length := (List.getElem?_eq_some_iff.mp hu).1
      simpa using this
    refine wpAny_pyNext_enum_itemD (Draws.tuple (show X.A.in1.handled = none from I.ok.hd hc) it a ai its.toArray) he ⟨hit, pT⟩ hil hne (by simp [ae, hne]) fun y h' tk hy ho st' hT hsz hk => ?_
    have yu : y = u := by
      have : its.toArray[i]? = some u := by simpa using hu
      rw [this] at hy
      exact (Option.some.inj hy).symm
    subst yu
    refine ⟨_, rfl, wpAny_letOwnedTupleGo_enum (s := { s with heap := h', toks := tk + 1 }) ho fun h'' he' sb => ?_⟩
    have hT2 : h''.get? s.heap.objs.size = some { cls := .type "tuple", data := .seq #[.int i tk, y] } := (sb.2 _ (Nat.ne_of_gt le)).trans hT
    have nw : ObjOk X.prog X.w (upd H s.heap.objs.size (.tup [.int (i : Nat), x])) h'' s.heap.objs.size (.tup [.int (i : Nat), x]) := ⟨by show 2 ≤ sizeLine; decide, [.int i tk, y], .cons ⟨_, rfl⟩ (.cons ru .nil), ⟨_, hT2, rfl, _, rfl⟩⟩
    have I1 : Inv X pins σ (upd H s.heap.objs.size (.tup [.int (i : Nat), x])) { s with heap := h'', toks := tk + 1 } :=
      I.turnedNew (ch := [e, it]) (fun b ob hb q => (sb.2 b fun z => hb (by simp [z])).trans (hk b ob (fun z => hb (by simp [z])) (fun z => hb (by simp [z])) q)) hf (Nat.le_refl _) nw
    refine ⟨.ref s.heap.objs.size, _, I1, rfl, ⟨_, x, rfl, I.hok.fresh (Nat.le_refl _), rfl, fun ys hy => by rw [I.tuple_inj hy hq]; exact hx⟩, ⟨⟨y, ?_⟩, st'.1.at fun o q => (sb.2 it (Ne.symm hne)).trans q, hne⟩, fun b hb => ?_⟩
    · rw [show ((i + 1 : Nat) : Int) = (i : Int) + 1 by omega]
      exact he'
    · have hb' : b < s.heap.objs.size := by
        rcases (by simpa using hb : b = e ∨ b = it) with z | z
        · rw [z]; exact le
        · rw [z]; exact li
      rw [upd_ne (Nat.ne_of_lt hb')]
      exact (hf b hb).1
  done := by
    intro X hP hw hK hc i pins s σ H E I hf st hg
    subst hP hw hK
    obtain ⟨⟨old, he⟩, hit, hne⟩ := st
    obtain ⟨xs, hq, hx⟩ := hg
    obtain ⟨its, rv, p, hz⟩ := I.tuple hq
    have pT : s.heap.IsTuple a its.toArray := p
    obtain ⟨f0, f1, f2, f3, f4, f5⟩ := hf it (by simp)
    have ai : a ≠ it := fun c => by
      obtain ⟨o, ho, hc, _⟩ := id pT
      obtain ⟨o', ho', hc', _⟩ := id hit
      rw [c, ho'] at ho
      cases ho
      rw [hc'] at hc
      revert hc
      simp
    have hl := rv.length
    have hh : X.A.in1.handled = none := I.ok.hd hc
    have D : Draws X.prog X.w X.A.in1 it [it, a] i (fun _ _ => True) (fun j h => h.IsTupleIter it a j ∧ h.IsTuple a its.toArray ∧ j = i) := {
      live := fun _ _ st => let ⟨o, ho, _⟩ := st.1; ⟨o, ho⟩
      frame := fun _ _ _ st hk => ⟨st.1.at fun o q => hk it (by simp) o q, st.2.1.at fun o q => hk a (by simp) o q, st.2.2⟩
      item := fun j s Q E hj st _ => absurd st.2.2 (Nat.ne_of_lt hj)
      done := fun s Q E st hE => wpAny_nextOf_tuple_end hh st.1 st.2.1 (by simp; omega) hE }
    exact wpAny_pyNext_enum_endD D he ⟨hit, pT, rfl⟩ fun h' eb => ⟨rfl, I.turned (t' := s.toks) (fun b o hb q => eb b o hb q) f0 f1 f3 f4 f5⟩
  self := fun A i s Q E st h => let ⟨⟨_, he⟩, _⟩ := st; wpAny_pyIter_enum he h
/-- enumerate(a list or a tuple) -/
def iEnuA (K : PySem.W.Frag) (ta : TA) : TI := fun σ H R => ta σ H fun vs H1 => (∃ a xs, vs = [.ref a] ∧ SqL K H1 a xs ∧ R (Ite K a) H1) ∨ ∃ a xs, vs = [.ref a] ∧ SqT K H1 a xs ∧ R (ItE K a) H1
theorem pi_enuA {X : Cx} {e : Expr} {ta : TA} {p pos tpos : Pos} {elts : List Expr} {kk : Nat} (hg : Gl X "enumerate") (hm : X.mg "enumerate" = none) (ha : PA X [e] ta) (hs : starEach [e] X.env = [(false, eval e X.env)]) :
    PI X (.Tuple elts kk tpos) (.Call (.Name "enumerate" p) [e] [] pos) (iEnuA X.K ta) := by
  refine ⟨fun pins s σ H R I h => ?_⟩
  refine Call_ (ld_blt I hg hm boot_enumerate (PyProof.Rows.callWith_type1 (thn (ha.run pos pins s σ H _ I h) fun us s1 ⟨vs, H1, I1, r1, q1⟩ => ?_) hs rfl))
  have fresh : ∀ b, b ∈ [s1.heap.objs.size + 1, s1.heap.objs.size] → s1.heap.objs.size ≤ b := fun b hb => by
    rcases (by simpa using hb : b = s1.heap.objs.size + 1 ∨ b = s1.heap.objs.size) with z | z <;> omega
  rcases q1 with ⟨a, xs, ex, hq, q⟩ | ⟨a, xs, ex, hq, q⟩
  · subst ex
    cases r1 with
    | cons r rr =>
      cases rr
      cases r
      obtain ⟨its, rv, p', hz⟩ := I1.list hq
      refine call_enumerate_list p'.isList fun h' he hit hsz hk => wpAny_pyIter_enum he ?_
      exact ⟨s1.heap.objs.size + 1, [s1.heap.objs.size + 1, s1.heap.objs.size], _, _, H1, rfl, I1.kept (t' := s1.toks) hk, turn_enum a _ _, ⟨⟨.none, he⟩, hit, Nat.succ_ne_self _⟩, fun b hb => I1.fpOk (fresh b hb) (I1.hok.fresh (fresh b hb)), q⟩
  · subst ex
    cases r1 with
    | cons r rr =>
      cases rr
      cases r
      obtain ⟨its, rv, p', hz⟩ := I1.tuple hq
      refine call_enuT (show s1.heap.IsTuple a its.toArray from p') fun h' he hit hsz hk => wpAny_pyIter_enum he ?_
      exact ⟨s1.heap.objs.size + 1, [s1.heap.objs.size + 1, s1.heap.objs.size], _, _, H1, rfl, I1.kept (t' := s1.toks) hk, turn_enuT a _ _, ⟨⟨.none, he⟩, hit, Nat.succ_ne_self _⟩, fun b hb => I1.fpOk (fresh b hb) (I1.hok.fresh (fresh b hb)), q⟩
theorem walk_enuT {K : PySem.W.Frag} {a : Addr} {vs : List V} : Walk (ItE K a) vs.length (fun H => SqT K H a vs) (YPair (fun i => some (.int (i : Nat))) (fun i => vs[i]?)) := by
  refine ⟨fun i H hi g => ⟨vs, vs[i], g, List.getElem?_eq_getElem hi⟩, fun H g => ⟨vs, g, Nat.le_refl _⟩, fun i H x H' hi g y => ?_⟩
  obtain ⟨T, u, rfl, hT, rfl, hx⟩ := y
  exact ⟨T, _, u, rfl, hT, rfl, rfl, hx vs g⟩
theorem its_enuT {K : PySem.W.Frag} {H1 : Hp} {xs : List PyData} {vs : List V} {a : Addr} {fp : List Addr} (e : H1 a = some (.tup vs)) (h : RdL H1 xs vs fp) : ItsD (enumD 0 xs) fp H1 (ItE K a) := by
  refine ⟨YPair (fun i => some (.int (i : Nat))) (fun i => vs[i]?), ?_, fun i H x H' hi k y => ?_⟩
  · rw [enumD_len, h.length]
    exact walk_enuT.mono (fun H k => SqT.of (k a _ e (.inr ⟨_, rfl⟩) (fun _ c => by cases c))) fun i H x H' hi k y => y
  · obtain ⟨T, u, w, rfl, hT, rfl, hu, hw⟩ := y
    cases hu
    obtain ⟨d, f, e1, e2, e3⟩ := h.at hw
    have rd := Rd.pair (.int (i : Nat)) (e2.keep2 (k.sub e3)) hT
    exact ⟨.inr ⟨T, _, hT, rfl⟩, _, f, by rw [enumD_get e1, Nat.zero_add], rd, e3⟩
theorem si_enuA {X : Cx} {XR : XRel} {W : WX} {Γ : FEnv} {tg e : Expr} {te : SemE} (h : PI X tg e (iEnuA X.K (tCons (TEv XR W Γ te) tNil))) : PI X tg e (TIv XR W Γ (DD.iEnum te)) := PI_imp h fun σ H R ⟨F, b, e, I, q⟩ => by
  subst e
  unfold DD.iEnum at q
  refine te_bind I .refl q fun b1 r1 x H1 f1 q1 I1 e1 rs1 => ?_
  cases hv : r1.v with
  | dat d =>
    rw [hv] at q1
    have rd := rs1.vr.nil hv
    have src := rs1.src
    cases rd with
    | lst e t => exact .inl ⟨_, _, rfl, SqL.of e, q1 _ _ I1 e1 ⟨_, fun a z => ⟨src a z, rs1.vr.dom a z⟩, its_enum e t⟩⟩
    | tup e t => exact .inr ⟨_, _, rfl, SqT.of e, q1 _ _ I1 e1 ⟨_, fun a z => ⟨src a z, rs1.vr.dom a z⟩, its_enuT e t⟩⟩
    | _ => exact (show False from q1).elim
  | strm => rw [hv] at q1; exact (show False from q1).elim
  | scr => rw [hv] at q1; exact (show False from q1).elim
end DD
set_option Elab.async false
set_option linter.all false
set_option maxRecDepth 100000
set_option maxHeartbeats 4000000
/-! DS24: two names at once, by a tuple that is unpacked again. -/
namespace DD
open PySem PySem.Spec PyProof.Rows L2 RZ
section
variable {X : Cx} {XR : XRel} {W : WX} {Γ : FEnv}
theorem ss_unpN {s : Stmt} {i j : Nat} {f g : SemE} (hij : i ≠ j) (h : PS X s (tAsg (L2.tTup (tCons (TEv XR W Γ f) (tCons (TEv XR W Γ g) tNil))) (L2.gTup X.K 2 (gCons (gName i) (gCons (gName j) gNil))))) : PS X s (TSv XR W Γ (sPar2 i j f g)) := PS_imp h fun D σ H ⟨F, b, e, I, q⟩ => by
  subst e
  refine ts_bindE I q fun b1 r1 v1 H1 f1 q1 I1 e1 rs1 => ?_
  refine ts_bindE I1 q1 fun b2 r2 v2 H2 f2 q2 I2 e2 rs2 => ?_
  refine ⟨by rw [sizeLine_eq]; exact (show 2 ≤ 16777216 by decide), fun p hp => ?_⟩
  have x1 : ExtS F.st H2 (upd H2 p (.tup [v1, v2])) := .new hp
  have I3 : F.Inv b2 (upd H2 p (.tup [v1, v2])) := I2.new hp
  refine ⟨p, [v1, v2], rfl, SqT.of upd_same, rfl, v1, _, rfl, v2, _, rfl, rfl, q2 (fun k => if k = j then f2 else if k = i then f1 else F.fps k) _ _ ?_⟩
  have rs1' := rs1.grow I I1.strm (e2.trans x1)
  have rs2' := rs2.grow I1 I2.strm x1
  have hd : ∀ {k : Nat} {s : Sl}, (demote (r1.t ++ r2.t) F.σd)[k]? = some (some s) → ∃ s0, F.σd[k]? = some (some s0) := fun h => let ⟨s0, e, _⟩ := demote_some h; ⟨s0, e⟩
  have J := (I3.demote (r1.t ++ r2.t)).set (i := i) rs1'.vr (rs1'.own I) (fun k s hk h a ha z => ((rs1'.src a z).mono fun x hx => List.mem_append_left _ hx).apart I h ha) rs1'.fr.1
    fun a ha => ⟨I.h0 (rs1'.fr.2 a ha), fun k s hk h z => let ⟨s0, e0⟩ := hd h; I.slotDom e0 z (rs1'.fr.2 a ha)⟩
  refine J.set rs2'.vr (rs2'.own I1) (fun k s hk h a ha z => ?_) rs2'.fr.1 fun a ha => ⟨I1.h0 (rs2'.fr.2 a ha), fun k s hk h z => ?_⟩
  · rcases set_key h with ⟨rfl, rfl⟩ | ⟨hki, h⟩
    · rw [if_pos rfl] at ha
      exact rs1.apart1 I ha (rs2'.src a z)
    · rw [if_neg hki] at ha
      exact ((rs2'.src a z).mono fun x hx => List.mem_append_right _ hx).apart I1 h ha
  · rcases set_key h with ⟨rfl, rfl⟩ | ⟨hki, h⟩
    · rw [if_pos rfl] at z
      exact rs1.vr.dom a z (rs2'.fr.2 a ha)
    · rw [if_neg hki] at z
      obtain ⟨s0, e0⟩ := hd h
      exact I1.slotDom e0 z (rs2'.fr.2 a ha)
end
end DD
set_option Elab.async false
set_option linter.all false
set_option maxRecDepth 100000
set_option maxHeartbeats 4000000
/-! DC1: the compiler of a def's text to its plain meaning; what it gives comes with its proof. -/
namespace DD
open PySem PySem.Spec PyProof.Rows L2 RZ
structure Ctx where
  N : List Str
  sc : Scope
  own : List Str
  tab : List (Str × Nat × List Str)
  spo : Option Nat
def bltNames : List Str := ["len", "range", "zip", "enumerate", "list", "tuple", "dict", "int", "bool", "str", "isinstance", "all", "any", "sum", "min", "max", "abs", "sorted"]
structure OkC (XR : XRel) (C : Ctx) (X : Cx) (W : WX) (Γ : FEnv) : Prop where
  N : X.N = C.N
  nd : C.N.Nodup
  sc : X.env.scope = C.sc
  fk : C.sc.kind = .function
  calm : X.calm = true
  fn : ∀ x, C.own.contains x = true → X.fn x = true
  blt : ∀ x, bltNames.contains x = true → X.mg x = none
  defs : ∀ x i ps, C.tab.lookup x = some (i, ps) → ∃ k f fd, FnOk X.prog X.w X.K X.mg X.base (L2.CX X.prog X.w) k f fd ps (SpG XR ps.length (Γ i)) ∧ Room k X.A ∧ X.mg x = some (.ref f) ∧ PySem.W.keepIn X.K (.ref f) = true ∧ Binds X.K fd ps [] ∧
    (∀ xs, xs.length ≠ ps.length → Γ i xs = .fail) ∧ BindR X.K fd ps
  spo : ∀ j, C.spo = some j → ∃ k f fd, FnOk X.prog X.w X.K X.mg X.base (L2.CX X.prog X.w) k f fd ["thing"] (spSp (Γ j)) ∧ Room k X.A ∧ X.mg "_law_spoilt" = some (.ref f) ∧ PySem.W.keepIn X.K (.ref f) = true ∧ Binds X.K fd ["thing"] []
  takes : Takes X W
  pass : PassesOwn (model X.prog X.w) X.A X.env X.xe
  units : X.A.units + 200 < cLine
/-! ### what comes out -/
def CEx (XR : XRel) (C : Ctx) (e : Expr) : Type := { f : SemE // ∀ X W Γ, OkC XR C X W Γ → PE X e (TEv XR W Γ f) }
def CTx (XR : XRel) (C : Ctx) (e : Expr) : Type := { f : SemT // ∀ X W Γ, OkC XR C X W Γ → PT X e (TTv XR W Γ f) }
def CAx (XR : XRel) (C : Ctx) (es : List Expr) : Type := { f : SemA // ∀ X W Γ, OkC XR C X W Γ → PA X es (TAv XR W Γ f) }
def CIx (XR : XRel) (C : Ctx) (tg e : Expr) : Type := { f : SemI // ∀ X W Γ, OkC XR C X W Γ → PI X tg e (TIv XR W Γ f) }
def CGx (XR : XRel) (C : Ctx) (e : Expr) : Type := { f : List Nat × SemG // ∀ X W Γ, OkC XR C X W Γ → PG X e (TGv f.1 f.2) }
def CSx (XR : XRel) (C : Ctx) (s : Stmt) : Type := { f : SemS // ∀ X W Γ, OkC XR C X W Γ → PS X s (TSv XR W Γ f) }
def CBx (XR : XRel) (C : Ctx) (s : List Stmt) : Type := { f : SemS // ∀ X W Γ, OkC XR C X W Γ → PSs X s (TSv XR W Γ f) }
section
variable {XR : XRel} {C : Ctx}
def failE (e : Expr) : CEx XR C e := ⟨eFail, fun _ _ _ _ => se_fail⟩
def failT (e : Expr) : CTx XR C e := ⟨tFail, fun _ _ _ _ => st_fail⟩
def aFail : SemA := fun _ _ => .fail
def iFail : SemI := fun _ _ => .fail
def gFail : SemG := fun _ _ => .fail
def failA (e : List Expr) : CAx XR C e := ⟨aFail, fun _ _ _ _ => ⟨fun _ _ _ _ _ _ _ ⟨_, _, _, _, q⟩ => q.elim⟩⟩
def failI (tg e : Expr) : CIx XR C tg e := ⟨iFail, fun _ _ _ _ => ⟨fun _ _ _ _ _ _ ⟨_, _, _, _, q⟩ => q.elim⟩⟩
def failG (e : Expr) : CGx XR C e := ⟨([], gFail), fun _ _ _ _ => ⟨fun _ _ _ _ _ _ _ _ _ ⟨_, _, _, _, _, _, _, _, _, _, q⟩ => q.elim⟩⟩
def failS (s : Stmt) : CSx XR C s := ⟨sFail, fun _ _ _ _ => ss_fail⟩
def failB (s : List Stmt) : CBx XR C s := ⟨sFail, fun _ _ _ _ => ss_fails⟩
end
/-! ### looking things up -/
/-- names that the model takes by themselves -/
def badName (x : Str) : Bool := x == ("__debug__" : Str) || x == ("__classdict__" : Str) || decide (x = ("__name__" : Str))
theorem badName_f {x : Str} (h : badName x = false) : (x == ("__debug__" : Str)) = false ∧ (x == ("__classdict__" : Str)) = false ∧ x ≠ "__name__" := by
  unfold badName at h
  simp only [Bool.or_eq_false_iff, decide_eq_false_iff_not] at h
  exact ⟨h.1.1, h.1.2, h.2⟩
def visB (sc : Scope) (x : Str) : Bool := match sc.names.lookup x with
  | some .local => true
  | some .cell => true
  | some .free => true
  | _ => false
def locB (C : Ctx) (x : Str) : Bool := match C.sc.names.lookup x with
  | some .local => true
  | some .cell => C.own.contains x
  | _ => false
def glB (C : Ctx) (x : Str) : Bool := !badName x && (match C.sc.names.lookup x with
  | some .globalImplicit => true
  | _ => false)
/-- x is the built-in -/
def isB (C : Ctx) (x : Str) (n : Str) : Bool := decide (x = n) && glB C n && bltNames.contains n
section
variable {XR : XRel} {C : Ctx} {X : Cx} {W : WX} {Γ : FEnv}
theorem vis_of (O : OkC XR C X W Γ) {x : Str} (h : visB C.sc x = true) : Vis X.env.scope x := by
  rw [O.sc]
  unfold visB at h
  split at h
  · rename_i e; exact .inl e
  · rename_i e; exact .inr (.inl e)
  · rename_i e; exact .inr (.inr e)
  · cases h
theorem loc_of (O : OkC XR C X W Γ) {x : Str} (h : locB C x = true) : Loc X.env.scope x ∧ (X.fn x = true ∨ X.env.scope.names.lookup x = some .local) := by
  rw [O.sc]
  unfold locB at h
  split at h
  · rename_i e; exact ⟨.inl e, .inr e⟩
  · rename_i e; exact ⟨.inr e, .inl (O.fn x h)⟩
  · cases h
theorem gl_of (O : OkC XR C X W Γ) {x : Str} (h : glB C x = true) : Gl X x ∧ badName x = false := by
  unfold glB at h
  simp only [Bool.and_eq_true, Bool.not_eq_true'] at h
  refine ⟨?_, h.1⟩
  have h2 := h.2
  split at h2
  · rename_i e
    show X.env.scope.names.lookup x = _
    rw [O.sc]; exact e
  · cases h2
theorem isB_of (O : OkC XR C X W Γ) {x n : Str} (h : isB C x n = true) : x = n ∧ Gl X n ∧ X.mg n = none := by
  unfold isB at h
  simp only [Bool.and_eq_true, decide_eq_true_eq] at h
  exact ⟨h.1.1, (gl_of O h.1.2).1, O.blt n h.2⟩
end
/-! ### arguments without stars -/
def star? : Expr → Bool
  | .Starred .. => true
  | _ => false
theorem star_cons {e : Expr} {es : List Expr} {env : Env} (h : star? e = false) : starEach (e :: es) env = (false, eval e env) :: starEach es env := by
  cases e <;> first | rfl | cases h
theorem star_plain {es : List Expr} {env : Env} {pos : Pos} (h : es.all (fun e => !star? e) = true) : (backTo pos (starEach es env)).any (·.1) = false := by
  induction es with
  | nil => rfl
  | cons e es ih =>
    simp only [List.all_cons, Bool.and_eq_true, Bool.not_eq_true'] at h
    rw [star_cons h.1]
    show (false || (backTo pos (starEach es env)).any (·.1)) = false
    rw [ih (by simpa using h.2)]
    rfl
/-! ### the compiler: one step over lower compilers -/
structure Rec (XR : XRel) where
  E : ∀ (C : Ctx) (e : Expr), CEx XR C e
  T : ∀ (C : Ctx) (e : Expr), CTx XR C e
  A : ∀ (C : Ctx) (es : List Expr), CAx XR C es
  G : ∀ (C : Ctx) (e : Expr), CGx XR C e
  S : ∀ (C : Ctx) (s : Stmt), CSx XR C s
  B : ∀ (C : Ctx) (s : List Stmt), CBx XR C s
def rec0 (XR : XRel) : Rec XR := ⟨fun _ => failE, fun _ => failT, fun _ => failA, fun _ => failG, fun _ => failS, fun _ => failB⟩
section
variable {XR : XRel} (r : Rec XR) (C : Ctx)
/-! #### argument lists -/
def stepA : (es : List Expr) → CAx XR C es
  | [] => ⟨aNil, fun _ _ _ _ => sa_nil pa_nil⟩
  | .Starred e p :: es => ⟨aStar (r.E C e).1 (r.A C es).1, fun X W Γ O => sa_star (StX.pa_star ((r.E C e).2 X W Γ O) ((r.A C es).2 X W Γ O) rfl)⟩
  | e :: es => if h : star? e = false then ⟨aCons (r.E C e).1 (r.A C es).1, fun X W Γ O => sa_cons (pa_cons ((r.E C e).2 X W Γ O) ((r.A C es).2 X W Γ O) (star_cons h))⟩ else failA _
/-! #### names, constants -/
def stepName (x : Str) (p : Pos) : CEx XR C (.Name x p) :=
  if h : (C.N.idxOf x < C.N.length ∧ visB C.sc x = true ∧ badName x = false) then
    ⟨eVar (C.N.idxOf x), fun X W Γ O => se_var (pe_var (by rw [O.N, List.getElem?_eq_getElem h.1, List.getElem_idxOf h.1]) (vis_of O h.2.1) (badName_f h.2.2).1 (badName_f h.2.2).2.1)⟩
  else failE _
def stepConst (c : Const) (k : Nat) (p : Pos) : CEx XR C (.Constant c k p) := match c with
  | .none => ⟨eC .none, fun _ _ _ _ => se_const pe_non fun _ => .non⟩
  | .bool b => ⟨eC (.bool b), fun _ _ _ _ => se_const pe_bl fun _ => .bl b⟩
  | .int i => ⟨eC (.int i), fun _ _ _ _ => se_const pe_int fun _ => .int i⟩
  | .str s => ⟨eC (.str s), fun _ _ _ _ => se_const pe_str fun _ => .str s⟩
  | _ => failE _
/-! #### operators -/
def stepBin (a : Expr) (op : Operator) (b : Expr) (p : Pos) : CEx XR C (.BinOp a op b p) :=
  let ea := r.E C a
  let eb := r.E C b
  match op with
  | .Add => ⟨eAdd ea.1 eb.1, fun X W Γ O => se_add (pe_op op_addAny (ea.2 X W Γ O) (eb.2 X W Γ O))⟩
  | .Sub => ⟨eOp oSub ea.1 eb.1, fun X W Γ O => se_op (pe_op op_sub (ea.2 X W Γ O) (eb.2 X W Γ O)) (k_int0 (fun _ _ _ => .int _) i2_inv)⟩
  | .Mult => ⟨eMul ea.1 eb.1, fun X W Γ O => se_mul (pe_op op_mulAny (ea.2 X W Γ O) (eb.2 X W Γ O))⟩
  | .Mod => ⟨eOp oMod ea.1 eb.1, fun X W Γ O => se_op (pe_op op_mod (ea.2 X W Γ O) (eb.2 X W Γ O)) (k_int (fun _ _ _ => .int _) fun d d' z e => by
      unfold oMod at e
      split at e
      · split at e
        · rename_i hc; exact ⟨_, _, rfl, rfl, hc, (Option.some.inj e).symm⟩
        · cases e
      · cases e)⟩
  | .FloorDiv => ⟨eOp oDiv ea.1 eb.1, fun X W Γ O => se_op (pe_op op_fdiv (ea.2 X W Γ O) (eb.2 X W Γ O)) (k_int (fun _ _ _ => .int _) fun d d' z e => by
      unfold oDiv at e
      split at e
      · split at e
        · rename_i hc; exact ⟨_, _, rfl, rfl, hc, (Option.some.inj e).symm⟩
        · cases e
      · cases e)⟩
  | .Pow => ⟨eOp oPow ea.1 eb.1, fun X W Γ O => se_op (pe_op op_pow (ea.2 X W Γ O) (eb.2 X W Γ O)) (k_int (fun _ _ _ => .int _) fun d d' z e => by
      unfold oPow at e
      split at e
      · split at e
        · rename_i hc; exact ⟨_, _, rfl, rfl, ⟨hc.1, hc.2.1, by have := hc.2.2; omega⟩, (Option.some.inj e).symm⟩
        · cases e
      · cases e)⟩
  | .LShift => ⟨eOp oShl ea.1 eb.1, fun X W Γ O => se_op (pe_op op_shl (ea.2 X W Γ O) (eb.2 X W Γ O)) (k_int (fun _ _ _ => .int _) fun d d' z e => by
      unfold oShl at e
      split at e
      · split at e
        · rename_i hc; exact ⟨_, _, rfl, rfl, ⟨hc.1, hc.2.1, by have := hc.2.2; omega⟩, (Option.some.inj e).symm⟩
        · cases e
      · cases e)⟩
  | .BitAnd => ⟨eOp oBAnd ea.1 eb.1, fun X W Γ O => se_op (pe_op op_and (ea.2 X W Γ O) (eb.2 X W Γ O)) (k_int0 (fun _ _ _ => .int _) i2_inv)⟩
  | _ => failE _
def stepUn (op : UnaryOp) (a : Expr) (p : Pos) : CEx XR C (.UnaryOp op a p) :=
  let ea := r.E C a
  match op with
  | .USub => ⟨eUn oNeg ea.1, fun X W Γ O => se_un (pe_un un_neg (ea.2 X W Γ O)) k_neg⟩
  | .Not => ⟨eNot ea.1, fun X W Γ O => se_not (pe_notT (ea.2 X W Γ O))⟩
  | _ => failE _
def stepBool (op : BoolOp) (p : Pos) : (vs : List Expr) → CEx XR C (.BoolOp op vs p)
  | [a] => ⟨(r.E C a).1, fun X W Γ O => pe_one ((r.E C a).2 X W Γ O)⟩
  | a :: b :: rest => (match op with
    | .And => ⟨eAnd (r.E C a).1 (r.E C (.BoolOp .And (b :: rest) p)).1, fun X W Γ O => se_and (pe_andT ((r.E C a).2 X W Γ O) ((r.E C (.BoolOp .And (b :: rest) p)).2 X W Γ O))⟩
    | .Or => ⟨eOr (r.E C a).1 (r.E C (.BoolOp .Or (b :: rest) p)).1, fun X W Γ O => se_or (pe_orT ((r.E C a).2 X W Γ O) ((r.E C (.BoolOp .Or (b :: rest) p)).2 X W Γ O))⟩)
  | [] => failE _
end
end DD
set_option Elab.async false
set_option linter.all false
set_option maxRecDepth 100000
set_option maxHeartbeats 4000000
/-! DC2: comparisons, tests, subscripts, calls. -/
namespace DD
open PySem PySem.Spec PyProof.Rows L2 RZ
/-! ### comparisons -/
structure CmpP (op : CmpOp) where
  o : PyData → PyData → Option PyData
  r : PySem.W.Frag → R2
  ho : ∀ X : Cx, X.A.units + 200 < cLine → OpR X (compareOp op) (r X.K)
  k : ∀ (K : PySem.W.Frag) (H : Hp) (d d' z : PyData) (x y : V) (f g : List Addr) (Q : VK), o d d' = some z → Rd H d x f → Rd H d' y g → (∀ v, Rd H z v [] → Q v H) → r K x y H Q
  bl : ∀ d d' z, o d d' = some z → ∃ c, z = .bool c
theorem i2_bl {f : Int → Int → Bool} : ∀ d d' z, i2 (fun i j => .bool (f i j)) d d' = some z → ∃ c, z = .bool c := fun d d' z h => by
  obtain ⟨i, j, _, _, rfl⟩ := i2_inv d d' z h
  exact ⟨_, rfl⟩
theorem wholes_inv {H : Hp} : ∀ {ds : List PyData} {vs : List V} {fp : List Addr} {bs : List Int}, RdL H ds vs fp → wholes ds = some bs → vs = bs.map V.int
  | [], _, _, bs, .nil, e => by cases e; rfl
  | d :: ds, _, _, bs, .cons r t, e => by
    cases d with
    | int c =>
      obtain ⟨cs, e1, rfl⟩ := Option.map_eq_some_iff.mp (show (wholes ds).map (c :: ·) = some bs from e)
      rw [r.int_inv, wholes_inv t e1]
      rfl
    | _ => cases e
theorem oLt_bl : ∀ d d' z, oLt d d' = some z → ∃ c, z = .bool c := fun d d' z h => by
  unfold oLt at h
  split at h
  · cases h; exact ⟨_, rfl⟩
  · split at h
    · cases h; exact ⟨_, rfl⟩
    · cases h
  · cases h
theorem k_lt (K : PySem.W.Frag) (H : Hp) (d d' z : PyData) (x y : V) (f g : List Addr) (Q : VK) (ho : oLt d d' = some z) (hx : Rd H d x f) (hy : Rd H d' y g) (q : ∀ v, Rd H z v [] → Q v H) : rI0 (fun i j => .bl (decide (i < j))) x y H Q ∨ rLtT K x y H Q := by
  unfold oLt at ho
  split at ho
  · cases ho
    exact .inl ⟨_, _, hx.int_inv, hy.int_inv, q _ (.bl _)⟩
  · split at ho
    · rename_i a b ea eb
      cases ho
      cases hx with
      | tup e1 t1 =>
        cases hy with
        | tup e2 t2 =>
          rw [wholes_inv t1 ea] at e1
          rw [wholes_inv t2 eb] at e2
          exact .inr ⟨_, _, a, b, rfl, rfl, SqT.of e1, SqT.of e2, q _ (.bl _)⟩
    · cases ho
  · cases ho
def cmpP : (op : CmpOp) → CmpP op
  | .Eq => ⟨oEq, rEqP, fun X hu => op_eqP hu, (fun K H d d' z x y f g Q ho hx hy q => by
      unfold oEq at ho
      split at ho
      · rename_i hk
        obtain ⟨p1, p2, p3⟩ := eqOk_inv hk
        cases ho
        exact ⟨d, d', hx.dp p1, hy.dp p2, p1, p2, p3, q _ (.bl _)⟩
      · cases ho), fun d d' z h => by
      unfold oEq at h
      split at h
      · cases h; exact ⟨_, rfl⟩
      · cases h⟩
  | .NotEq => ⟨oNe, rNeP, fun X hu => op_neP hu, (fun K H d d' z x y f g Q ho hx hy q => by
      unfold oNe at ho
      split at ho
      · rename_i hk
        obtain ⟨p1, p2, p3⟩ := eqOk_inv hk
        cases ho
        exact ⟨d, d', hx.dp p1, hy.dp p2, p1, p2, p3, q _ (.bl _)⟩
      · cases ho), fun d d' z h => by
      unfold oNe at h
      split at h
      · cases h; exact ⟨_, rfl⟩
      · cases h⟩
  | .Lt => ⟨oLt, fun K => fun x y H Q => rI0 (fun i j => .bl (decide (i < j))) x y H Q ∨ rLtT K x y H Q, fun X hu => OpR.or op_lt (op_ltT (by omega)), k_lt, oLt_bl⟩
  | .LtE => ⟨oLe, fun _ => rI0 fun i j => .bl (decide (i ≤ j)), fun X _ => op_le, fun K => k_int0 (fun _ _ _ => .bl _) i2_inv, i2_bl⟩
  | .Gt => ⟨oGt, fun _ => rI0 fun i j => .bl (decide (j < i)), fun X _ => op_gt, fun K => k_int0 (fun _ _ _ => .bl _) i2_inv, i2_bl⟩
  | .GtE => ⟨oGe, fun _ => rI0 fun i j => .bl (decide (j ≤ i)), fun X _ => op_ge, fun K => k_int0 (fun _ _ _ => .bl _) i2_inv, i2_bl⟩
  | .Is => ⟨oIsN, fun _ => fun x y H Q => y = .non ∧ Q (.bl (decide (x = .non))) H, fun X _ => op_isN, fun K => k_isN, fun d d' z h => by
      unfold oIsN at h
      split at h
      · cases h; exact ⟨_, rfl⟩
      · cases h⟩
  | .IsNot => ⟨oIsNotN, fun _ => fun x y H Q => y = .non ∧ Q (.bl (!decide (x = .non))) H, fun X _ => op_notN, fun K => k_isNotN, fun d d' z h => by
      unfold oIsNotN at h
      split at h
      · cases h; exact ⟨_, rfl⟩
      · cases h⟩
  | .In => ⟨oIn, fun K => rInP K false, fun X hu => op_inP hu, fun K => k_in oIn_inv, fun d d' z h => by
      obtain ⟨_, _, _, rfl⟩ := oIn_inv d d' z h
      exact ⟨_, rfl⟩⟩
  | .NotIn => ⟨oNotIn, fun K => rInP K true, fun X hu => op_notInP hu, fun K => k_in oNotIn_inv, fun d d' z h => by
      obtain ⟨_, _, _, rfl⟩ := oNotIn_inv d d' z h
      exact ⟨_, rfl⟩⟩
theorem op_bool {o : PyData → PyData → Option PyData} (bl : ∀ d d' z, o d d' = some z → ∃ c, z = .bool c) {ta tb : SemE} : ∀ Γ σ b Q E, wpB b (eOp o ta tb Γ σ) Q E → wpB b (eOp o ta tb Γ σ) (fun b' r => Q b' r ∧ ∃ c, r.v = .dat (.bool c)) E := fun Γ σ b Q E h => by
  unfold eOp at h ⊢
  refine (wpB_bind _ _).mpr (wpB_mono (fun b1 x h1 => ?_) (fun _ _ z => z) _ _ ((wpB_bind _ _).mp h))
  refine (wpB_bind _ _).mpr (wpB_mono (fun b2 y h2 => ?_) (fun _ _ z => z) _ _ ((wpB_bind _ _).mp h1))
  cases hx : x.v with
  | dat d =>
    cases hy : y.v with
    | dat d' =>
      rw [hx, hy] at h2
      dsimp only at h2 ⊢
      cases ho : o d d' with
      | none => rw [ho] at h2; exact (show False from h2).elim
      | some z =>
        rw [ho] at h2
        obtain ⟨c, rfl⟩ := bl d d' z ho
        exact ⟨h2, c, rfl⟩
    | strm => rw [hx, hy] at h2; exact (show False from h2).elim
    | scr => rw [hx, hy] at h2; exact (show False from h2).elim
  | strm => rw [hx] at h2; exact (show False from h2).elim
  | scr => rw [hx] at h2; exact (show False from h2).elim
/-! ### types by name -/
def tyOf (x : Str) : Option Ty :=
  if x = ("list" : Str) then some .list else if x = ("tuple" : Str) then some .tuple else if x = ("int" : Str) then some .int else if x = ("bool" : Str) then some .bool else if x = ("str" : Str) then some .str else if x = ("dict" : Str) then some .dict else none
def Ty.sname : Ty → Str
  | .list => "list"
  | .tuple => "tuple"
  | .int => "int"
  | .bool => "bool"
  | .str => "str"
  | .dict => "dict"
theorem tyOf_eq {x : Str} {T : Ty} (h : tyOf x = some T) : x = T.sname := by
  unfold tyOf at h
  repeat' (split at h; · rename_i e; cases h; exact e)
  cases h
theorem ty_blt (T : Ty) : bootBuiltins T.sname = some (.type T.nm) ∧ bltNames.contains T.sname = true ∧ T.sname ≠ "__name__" ∧ (T.sname == ("__debug__" : Str)) = false := by
  cases T <;> exact ⟨by decide +kernel, by decide +kernel, by decide +kernel, by decide +kernel⟩
/-- a class in isinstance's second place -/
def tyE (C : Ctx) : Expr → Option Ty
  | .Name x _ => if glB C x = true then tyOf x else none
  | _ => none
section
variable {XR : XRel} {C : Ctx} {X : Cx} {W : WX} {Γ : FEnv}
theorem tyE_pe (O : OkC XR C X W Γ) {e : Expr} {T : Ty} (h : tyE C e = some T) : PE X e (tC (.ty T.nm)) ∧ star? e = false := by
  unfold tyE at h
  split at h
  · split at h
    · rename_i x p hg
      have e := tyOf_eq h
      subst e
      obtain ⟨h1, h2, h3, h4⟩ := ty_blt T
      exact ⟨pe_bltn (gl_of O hg).1 (O.blt _ h2) h1 rfl h3 h4, rfl⟩
    · cases h
  · cases h
def tysE (C : Ctx) : List Expr → Option (List Ty)
  | [] => some []
  | e :: es => (tyE C e).bind fun T => (tysE C es).map (T :: ·)
theorem tysE_pa (O : OkC XR C X W Γ) : ∀ {es : List Expr} {Ts : List Ty}, tysE C es = some Ts → PA X es (tTys Ts)
  | [], _, h => by cases h; exact pa_nil
  | e :: es, _, h => by
    unfold tysE at h
    obtain ⟨T, h1, h2⟩ := Option.bind_eq_some_iff.mp h
    obtain ⟨Ts, h3, rfl⟩ := Option.map_eq_some_iff.mp h2
    obtain ⟨k1, k2⟩ := tyE_pe O h1
    exact pa_cons k1 (tysE_pa O h3) (star_cons k2)
end
/-! ### truth of an expression by its value -/
def plainT : Expr → Bool
  | .UnaryOp .Not _ _ => false
  | .BoolOp .. => false
  | .IfExp .. => false
  | .Compare .. => false
  | _ => true
theorem plainT_eq {e : Expr} {env : Env} (h : plainT e = true) (whole : Sem Value) : isTrue e env whole = (do let v ← whole; standAt e.pos; holding [v] (truthy v)) := by
  cases e with
  | UnaryOp op a p => cases op <;> first | rfl | cases h
  | BoolOp => cases h
  | IfExp => cases h
  | Compare => cases h
  | _ => rfl
def sl? : Expr → Bool
  | .Slice .. => true
  | _ => false
theorem plainIx {b : Expr} (h : sl? b = false) : PlainIx b := fun o i => by cases b <;> first | rfl | cases h
section
variable {XR : XRel} (r : Rec XR) (C : Ctx)
def stepCmp (a : Expr) (ops : List CmpOp) (bs : List Expr) (p : Pos) : CEx XR C (.Compare a ops bs p) := match ops, bs with
  | [op], [b] => if h : behindInMarks op b = false then
      ⟨eOp (cmpP op).o (r.E C a).1 (r.E C b).1, fun X W Γ O => se_op (pe_cmpR ((cmpP op).ho X O.units) ((r.E C a).2 X W Γ O) ((r.E C b).2 X W Γ O) h) ((cmpP op).k X.K)⟩ else failE _
  | _, _ => failE _
def stepCmpT (a : Expr) (ops : List CmpOp) (bs : List Expr) (p : Pos) : CTx XR C (.Compare a ops bs p) := match ops, bs with
  | [op], [b] => if h : behindInMarks op b = false then
      ⟨tVal (eOp (cmpP op).o (r.E C a).1 (r.E C b).1), fun X W Γ O => st_cmp (PT_imp (pt_cmpR ((cmpP op).ho X O.units) ((r.E C a).2 X W Γ O) ((r.E C b).2 X W Γ O) h) fun σ H Q z => te_op ((cmpP op).k X.K) σ H _ z) (op_bool (cmpP op).bl)⟩ else failT _
  | _, _ => failT _
def boolT (op : BoolOp) (p : Pos) : (vs : List Expr) → { f : SemT // ∀ X W Γ, OkC XR C X W Γ → PW X (.BoolOp op vs p) (TTv XR W Γ f) }
  | [] => ⟨tFail, fun _ _ _ _ => ⟨fun _ _ _ _ _ _ _ ⟨_, _, _, _, q⟩ => q.elim⟩⟩
  | [a] => (match op with
    | .And => ⟨(r.T C a).1, fun X W Γ O => pw_and1 ((r.T C a).2 X W Γ O)⟩
    | .Or => ⟨(r.T C a).1, fun X W Γ O => pw_or1 ((r.T C a).2 X W Γ O)⟩)
  | a :: b :: rest => (match op with
    | .And => ⟨DD.tAnd (r.T C a).1 (boolT .And p (b :: rest)).1, fun X W Γ O => sw_and (pw_and ((r.T C a).2 X W Γ O) ((boolT .And p (b :: rest)).2 X W Γ O))⟩
    | .Or => ⟨DD.tOr (r.T C a).1 (boolT .Or p (b :: rest)).1, fun X W Γ O => sw_or (pw_or ((r.T C a).2 X W Γ O) ((boolT .Or p (b :: rest)).2 X W Γ O))⟩)
def stepT (e : Expr) : CTx XR C e := match e with
  | .UnaryOp .Not a p => ⟨DD.tNot (r.T C a).1, fun X W Γ O => st_not (pt_not ((r.T C a).2 X W Γ O))⟩
  | .BoolOp op vs p => ⟨(boolT r C op p vs).1, fun X W Γ O => ((boolT r C op p vs).2 X W Γ O).pt⟩
  | .Compare a ops bs p => stepCmpT r C a ops bs p
  | e => if h : plainT e = true then ⟨tVal (r.E C e).1, fun X W Γ O => st_val (pt_truth ((r.E C e).2 X W Γ O) (plainT_eq h))⟩ else failT _
/-! #### subscripts -/
def stepO (e : Option Expr) : { f : SemO // ∀ X W Γ, OkC XR C X W Γ → PO X e (TOv XR W Γ f) } := match e with
  | none => ⟨oNone, fun X W Γ O => so_none po_none⟩
  | some e => ⟨oSome (r.E C e).1, fun X W Γ O => so_some (po_some ((r.E C e).2 X W Γ O))⟩
def stepSub (a b : Expr) (p : Pos) : CEx XR C (.Subscript a b p) := match b with
  | .Slice lo hi none p2 => ⟨eSl (r.E C a).1 (stepO r C lo).1 (stepO r C hi).1, fun X W Γ O => se_sl (pe_slice sl_any ((r.E C a).2 X W Γ O) ((stepO r C lo).2 X W Γ O) ((stepO r C hi).2 X W Γ O))⟩
  | .Slice none none (some (.UnaryOp .USub (.Constant (.int 1) k p1) p2)) p3 => ⟨eRev (r.E C a).1, fun X W Γ O => se_rev (pe_revL ((r.E C a).2 X W Γ O))⟩
  | b => if h : sl? b = false then ⟨eIx (r.E C a).1 (r.E C b).1, fun X W Γ O => se_ix (pe_ix (ix_any (by have := O.units; omega)) ((r.E C a).2 X W Γ O) ((r.E C b).2 X W Γ O) (plainIx h))⟩ else failE _
/-! #### calls -/
def stepCall1 (x : Str) (p : Pos) (a : Expr) (pos : Pos) : CEx XR C (.Call (.Name x p) [a] [] pos) :=
  if hs : star? a = false then
    let ea := r.E C a
    if h : isB C x "len" = true then ⟨eLen ea.1, fun X W Γ O => by
      obtain ⟨rfl, hg, hm⟩ := isB_of O h
      exact se_un (un_of (pe_callB call_len hg hm (by decide +kernel) (pa_cons (ea.2 X W Γ O) pa_nil (star_cons hs)) (by decide +kernel) (by decide +kernel) (star_cons hs) rfl)) k_len⟩
    else if h : isB C x "all" = true then ⟨eAll ea.1, fun X W Γ O => by
      obtain ⟨rfl, hg, hm⟩ := isB_of O h
      exact se_un (un_of (pe_callB (cr_all O.calm) hg hm (by decide +kernel) (pa_cons (ea.2 X W Γ O) pa_nil (star_cons hs)) (by decide +kernel) (by decide +kernel) (star_cons hs) rfl)) k_all⟩
    else if h : isB C x "any" = true then ⟨eAny ea.1, fun X W Γ O => by
      obtain ⟨rfl, hg, hm⟩ := isB_of O h
      exact se_un (un_of (pe_callB (cr_any O.calm) hg hm (by decide +kernel) (pa_cons (ea.2 X W Γ O) pa_nil (star_cons hs)) (by decide +kernel) (by decide +kernel) (star_cons hs) rfl)) k_any⟩
    else if h : isB C x "sum" = true then ⟨eSum ea.1, fun X W Γ O => by
      obtain ⟨rfl, hg, hm⟩ := isB_of O h
      exact se_un (un_of (pe_callB (cr_sum O.calm) hg hm (by decide +kernel) (pa_cons (ea.2 X W Γ O) pa_nil (star_cons hs)) (by decide +kernel) (by decide +kernel) (star_cons hs) rfl)) k_sum⟩
    else if h : isB C x "abs" = true then ⟨eAbs ea.1, fun X W Γ O => by
      obtain ⟨rfl, hg, hm⟩ := isB_of O h
      exact se_un (un_of (pe_callB call_abs hg hm (by decide +kernel) (pa_cons (ea.2 X W Γ O) pa_nil (star_cons hs)) (by decide +kernel) (by decide +kernel) (star_cons hs) rfl)) k_abs⟩
    else if h : isB C x "int" = true then ⟨eInt ea.1, fun X W Γ O => by
      obtain ⟨rfl, hg, hm⟩ := isB_of O h
      exact se_un (un_of (pe_callTy call_int1 hg hm (by decide +kernel) (pa_cons (ea.2 X W Γ O) pa_nil (star_cons hs)) (by decide +kernel) (by decide +kernel) (star_cons hs) rfl)) k_toInt⟩
    else if h : isB C x "list" = true then ⟨eList ea.1, fun X W Γ O => by
      obtain ⟨rfl, hg, hm⟩ := isB_of O h
      exact se_mon (un_of (pe_callTy call_list_of hg hm (by decide +kernel) (pa_cons (ea.2 X W Γ O) pa_nil (star_cons hs)) (by decide +kernel) (by decide +kernel) (star_cons hs) rfl)) k_list⟩
    else if h : isB C x "tuple" = true then ⟨eTuple ea.1, fun X W Γ O => by
      obtain ⟨rfl, hg, hm⟩ := isB_of O h
      exact se_mon (un_of (pe_callTy call_tuple_of hg hm (by decide +kernel) (pa_cons (ea.2 X W Γ O) pa_nil (star_cons hs)) (by decide +kernel) (by decide +kernel) (star_cons hs) rfl)) k_tuple⟩
    else if h : isB C x "sorted" = true then ⟨eSorted2 ea.1, fun X W Γ O => by
      obtain ⟨rfl, hg, hm⟩ := isB_of O h
      exact se_mon (un_of (pe_callB (cr_sort2 O.calm O.units) hg hm (by decide +kernel) (pa_cons (ea.2 X W Γ O) pa_nil (star_cons hs)) (by decide +kernel) (by decide +kernel) (star_cons hs) rfl)) k_sorted2⟩
    else failE _
  else failE _
def stepCall2 (x : Str) (p : Pos) (a b : Expr) (pos : Pos) : CEx XR C (.Call (.Name x p) [a, b] [] pos) :=
  if hs : star? a = false ∧ star? b = false then
    let ea := r.E C a
    let eb := r.E C b
    if h : isB C x "min" = true then ⟨eMin2 ea.1 eb.1, fun X W Γ O => by
      obtain ⟨rfl, hg, hm⟩ := isB_of O h
      have := pe_callB (p := p) (pos := pos) (call_min2 O.calm) hg hm (by decide +kernel) (pa_cons (ea.2 X W Γ O) (pa_cons (eb.2 X W Γ O) pa_nil (star_cons hs.2)) (star_cons hs.1)) (by decide +kernel) (by decide +kernel) (star_cons hs.1) (star_plain (by simp [hs.2]))
      exact se_op (r := fun x y H Q => ∃ i j, [x, y] = [.int i, .int j] ∧ Q (.int (if j < i then j else i)) H) this fun H d d' z x y f g Q ho hx hy q => by
        obtain ⟨i, j, rfl, rfl, rfl⟩ := i2_inv d d' z ho
        exact ⟨i, j, by rw [hx.int_inv, hy.int_inv], q _ (.int _)⟩⟩
    else if h : isB C x "max" = true then ⟨eMax2 ea.1 eb.1, fun X W Γ O => by
      obtain ⟨rfl, hg, hm⟩ := isB_of O h
      have := pe_callB (p := p) (pos := pos) (call_max2 O.calm) hg hm (by decide +kernel) (pa_cons (ea.2 X W Γ O) (pa_cons (eb.2 X W Γ O) pa_nil (star_cons hs.2)) (star_cons hs.1)) (by decide +kernel) (by decide +kernel) (star_cons hs.1) (star_plain (by simp [hs.2]))
      exact se_op (r := fun x y H Q => ∃ i j, [x, y] = [.int i, .int j] ∧ Q (.int (if j > i then j else i)) H) this fun H d d' z x y f g Q ho hx hy q => by
        obtain ⟨i, j, rfl, rfl, rfl⟩ := i2_inv d d' z ho
        exact ⟨i, j, by rw [hx.int_inv, hy.int_inv], q _ (.int _)⟩⟩
    else if h : isB C x "isinstance" = true then
      match hb : tyE C b with
      | some T => ⟨eIsi ea.1 [T], fun X W Γ O => by
          obtain ⟨rfl, hg, hm⟩ := isB_of O h
          obtain ⟨k1, k2⟩ := tyE_pe O hb
          exact se_isi1 (pe_callB call_isi hg hm (by decide +kernel) (pa_cons (ea.2 X W Γ O) (pa_cons k1 pa_nil (star_cons k2)) (star_cons hs.1)) (by decide +kernel) (by decide +kernel) (star_cons hs.1) (star_plain (by simp [hs.2])))⟩
      | none => (match b with
        | .Tuple es k p2 => (match ht : tysE C es with
          | some Ts => if hl : Ts.length ≤ 10 then ⟨eIsi ea.1 Ts, fun X W Γ O => by
              obtain ⟨rfl, hg, hm⟩ := isB_of O h
              exact se_isiT (pe_callB call_isiT hg hm (by decide +kernel) (pa_cons (ea.2 X W Γ O) (pa_cons (pe_tup (tysE_pa O ht)) pa_nil rfl) (star_cons hs.1)) (by decide +kernel) (by decide +kernel) (star_cons hs.1) rfl) hl⟩ else failE _
          | none => failE _)
        | _ => failE _)
    else failE _
  else failE _
/-- a def of one's own -/
def stepOwn (x : Str) (p : Pos) (es : List Expr) (pos : Pos) : CEx XR C (.Call (.Name x p) es [] pos) := match es with
  | [] => failE _
  | e :: es => if hs : (glB C x = true ∧ star? e = false ∧ es.all (fun e => !star? e) = true) then
      match ht : C.tab.lookup x with
      | some (i, ps) => ⟨eCall i (r.A C (e :: es)).1, fun X W Γ O => by
          obtain ⟨k, f, fd, F, hr, hm, hk, hb, hgam, hkw⟩ := O.defs x i ps ht
          obtain ⟨hg, hbad⟩ := gl_of O hs.1
          exact se_call hgam (pe_callSD F hr hg hm hk hb .nil (fun σ => passAt O.takes σ) ((r.A C (e :: es)).2 X W Γ O) (badName_f hbad).1 (star_cons hs.2.1) (star_plain hs.2.2))⟩
      | none => failE _
    else failE _
/-- list(range(a)), tuple(range(a)) -/
def stepRg (x : Str) (p : Pos) (y : Str) (p2 : Pos) (a : Expr) (pos2 pos : Pos) : CEx XR C (.Call (.Name x p) [.Call (.Name y p2) [a] [] pos2] [] pos) :=
  if h : isB C x "list" = true ∧ isB C y "range" = true ∧ star? a = false then ⟨eLRg (r.E C a).1, fun X W Γ O => by
    obtain ⟨rfl, hg, hm⟩ := isB_of O h.1
    obtain ⟨rfl, hg2, hm2⟩ := isB_of O h.2.1
    exact se_lrg (pe_listRg O.calm hg hm (prg_1 hg2 hm2 ((r.E C a).2 X W Γ O) (star_cons h.2.2)))⟩
  else if h : isB C x "tuple" = true ∧ isB C y "range" = true ∧ star? a = false then ⟨eTRg (r.E C a).1, fun X W Γ O => by
    obtain ⟨rfl, hg, hm⟩ := isB_of O h.1
    obtain ⟨rfl, hg2, hm2⟩ := isB_of O h.2.1
    exact se_trg (pe_tupRg O.calm hg hm (prg_1 hg2 hm2 ((r.E C a).2 X W Γ O) (star_cons h.2.2)))⟩
  else stepCall1 r C x p _ pos
theorem ta_one {XR : XRel} {W : WX} {Γ : FEnv} {ta : SemE} : ∀ σ H Q, TAv XR W Γ (aCons ta aNil) σ H Q → tCons (TEv XR W Γ ta) tNil σ H Q := by
  rintro σ H Q ⟨F, b, rfl, I, q⟩
  unfold aCons at q
  refine te_bind I .refl q fun b1 r1 x H1 f1 q1 I1 e1 rs1 => ?_
  exact q1 [x] H1 [f1] I1 e1 (.cons rs1 .nil fun a ha g hg => nomatch hg)
/-- f(k = e) -/
def stepKw (x : Str) (p : Pos) (nm : Str) (e : Expr) (kpos pos : Pos) : CEx XR C (.Call (.Name x p) [] [⟨some nm, e, kpos⟩] pos) :=
  if hs : glB C x = true then
    match ht : C.tab.lookup x with
    | some (i, [k]) => if hk : k = nm then ⟨eCall i (aCons (r.E C e).1 aNil), fun X W Γ O => by
        obtain ⟨kk, f, fd, F, hr, hm, hkp, hb, hgam, hkw⟩ := O.defs x i [k] ht
        obtain ⟨hg, hbad⟩ := gl_of O hs
        subst hk
        exact se_call hgam (PE_imp (pe_kw1 F hr hg hm hkp (bindK_ofR hkw) (fun σ => passAt O.takes σ) ((r.E C e).2 X W Γ O) (badName_f hbad).1) fun σ H Q z => ta_one σ H _ z)⟩ else failE _
    | _ => failE _
  else failE _
/-- the keywords' values -/
def stepK : (ks : List Keyword) → { f : SemA // ∀ X W Γ, OkC XR C X W Γ → PK X ks (TAv XR W Γ f) }
  | [] => ⟨aNil, fun _ _ _ _ => sk_nil⟩
  | ⟨nm, e, kpos⟩ :: ks => ⟨aCons (r.E C e).1 (stepK ks).1, fun X W Γ O => sk_cons (pk_cons ((r.E C e).2 X W Γ O) ((stepK ks).2 X W Γ O))⟩
theorem kw_names {env : Env} {pos : Pos} : ∀ {ks : List Keyword} {ns : List Str}, ks.map (·.arg) = ns.map some → (backToKw pos (keywordEach ks env)).all (·.1.isSome) = true ∧ (backToKw pos (keywordEach ks env)).filterMap (·.1) = ns ∧ (backToKw pos (keywordEach ks env)).any (·.1.isNone) = false
  | [], [], _ => ⟨rfl, rfl, rfl⟩
  | ⟨nm, e, kp⟩ :: ks, n :: ns, h => by
    rw [List.map_cons, List.map_cons] at h
    obtain ⟨h1, h2⟩ := List.cons.inj h
    have h1 : nm = some n := h1
    subst h1
    obtain ⟨a, b, c⟩ := kw_names (env := env) (pos := pos) h2
    refine ⟨?_, ?_, ?_⟩
    · show (true && (backToKw pos (keywordEach ks env)).all (·.1.isSome)) = true
      rw [a]; rfl
    · show n :: (backToKw pos (keywordEach ks env)).filterMap (·.1) = _
      rw [b]
    · show (false || (backToKw pos (keywordEach ks env)).any (·.1.isNone)) = false
      rw [c]; rfl
  | [], _ :: _, h => by cases h
  | _ :: _, [], h => by cases h
/-- f(k = v, ..), the parameters' order turned round -/
def stepKwR (x : Str) (p : Pos) (ks : List Keyword) (pos : Pos) : CEx XR C (.Call (.Name x p) [] ks pos) :=
  if hs : glB C x = true then
    match ht : C.tab.lookup x with
    | some (i, ps) => if hk : ks.map (·.arg) = ps.reverse.map some then ⟨eCallR i (stepK r C ks).1, fun X W Γ O => by
        obtain ⟨kk, f, fd, F, hr, hm, hkp, hb, hgam, hkw⟩ := O.defs x i ps ht
        obtain ⟨hg, hbad⟩ := gl_of O hs
        obtain ⟨n1, n2, n3⟩ := kw_names (env := X.env) (pos := pos) hk
        exact se_callR hgam (pe_kwR F hr hg hm hkp hkw (fun σ => passAt O.takes σ) ((stepK r C ks).2 X W Γ O) n1 n2 n3 (badName_f hbad).1)⟩ else failE _
    | none => failE _
  else failE _
/-- a.index(e) -/
def stepIndex (a : Expr) (m : Str) (apos : Pos) (e : Expr) (pos : Pos) : CEx XR C (.Call (.Attribute a m apos) [e] [] pos) := match a with
  | .Name x px => if h : m = ("index" : Str) ∧ star? e = false ∧ (apos.endLine == pos.line) = true then
      ⟨eIndex (r.E C (.Name x px)).1 (r.E C e).1, fun X W Γ O => by
        obtain ⟨rfl, hs, hl⟩ := h
        exact se_index (pe_bm PySem.F.plainAttrs_list PySem.F.slot_list_index PySem.F.type_list_index (mt_indexD (by have := O.units; omega)) ((r.E C (.Name x px)).2 X W Γ O) (pa_cons ((r.E C e).2 X W Γ O) pa_nil (star_cons hs)) rfl (by rw [star_cons hs]; rfl) hl (star_cons hs) rfl)⟩
    else failE _
  | _ => failE _
/-- list(a.items()) -/
def stepItems (x : Str) (p : Pos) (a : Expr) (m : Str) (apos cpos pos : Pos) : CEx XR C (.Call (.Name x p) [.Call (.Attribute a m apos) [] [] cpos] [] pos) := match a with
  | .Name y py => if h : isB C x "list" = true ∧ m = ("items" : Str) ∧ (apos.endLine == cpos.line) = true then
      ⟨eItems (r.E C (.Name y py)).1, fun X W Γ O => by
        obtain ⟨rfl, hg, hm⟩ := isB_of O h.1
        obtain ⟨_, rfl, hl⟩ := h
        exact se_items (LiI.pe_listItems O.calm ((r.E C (.Name y py)).2 X W Γ O) hg hm (by decide +kernel) rfl hl rfl)⟩
    else failE _
  | _ => failE _
def stepCall (f : Expr) (es : List Expr) (ks : List Keyword) (pos : Pos) : CEx XR C (.Call f es ks pos) := match f, ks with
  | .Name x p, [] => if (C.tab.lookup x).isSome then stepOwn r C x p es pos else (match es with
    | [.Call (.Name y p2) [a] [] pos2] => stepRg r C x p y p2 a pos2 pos
    | [.Call (.Attribute a m apos) [] [] cpos] => stepItems r C x p a m apos cpos pos
    | [a] => stepCall1 r C x p a pos
    | [a, b] => stepCall2 r C x p a b pos
    | _ => failE _)
  | .Name x p, [⟨some nm, e, kpos⟩] => (match es with
    | [] => stepKw r C x p nm e kpos pos
    | _ => failE _)
  | .Name x p, k1 :: k2 :: ks => (match es with
    | [] => stepKwR r C x p (k1 :: k2 :: ks) pos
    | _ => failE _)
  | .Attribute a m apos, [] => (match es with
    | [e] => stepIndex r C a m apos e pos
    | _ => failE _)
  | _, _ => failE _
end
end DD
set_option Elab.async false
set_option linter.all false
set_option maxRecDepth 100000
set_option maxHeartbeats 4000000
/-! DC3: blocks, displays, walks, targets, statements. -/
namespace DD
open PySem PySem.Spec PyProof.Rows L2 RZ
/-! ### blocks -/
def relS (scope sc : Scope) : Scope := { scope with names := scope.names.map fun (n, k) => if (k == .free && sc.kind == .function && sc.names.lookup n == some .cell) then (n, .cell) else (n, k) }
def Ctx.blk (C : Ctx) (scope : Scope) : Ctx := { C with sc := relS scope C.sc, own := (scope.names.filter fun p => p.2 == .cell).map (·.1) }
theorem lookup_cell {names : List (Str × NameKind)} {x : Str} (h : ((names.filter fun p => p.2 == .cell).map (·.1)).contains x = true) (hu : ∀ y ∈ names, names.lookup y.1 = some y.2) : names.lookup x = some .cell := by
  simp only [List.contains_eq_mem, List.mem_map, List.mem_filter, decide_eq_true_eq] at h
  obtain ⟨⟨n, k⟩, ⟨h1, h2⟩, rfl⟩ := h
  have := hu _ h1
  simp at h2
  rw [this]
  simp [h2]
theorem takes_W0 {X : Cx} : Takes X W0 := fun u s' ⟨a, B, sI, pins, σ, H, cls, d, e, I, nb, up, sky, na, os, ag, w⟩ => w.elim
section
variable {XR : XRel} {C : Ctx} {X : Cx} {W : WX} {Γ : FEnv}
theorem OkC.block (O : OkC XR C X W Γ) {scope : Scope} {own : List (Str × Nat)} (hb : blkC C.N C.sc scope own = true) (s : Shared) (H : Hp) (Ca : Addr) (cl : List (Str × Addr)) (fp : List Addr) :
    OkC XR (C.blk scope) (X.blk s H scope (compEnvC scope cl Ca X.env) fp) W0 Γ := by
  have ok := blkOk_by hb
  refine ⟨O.N, O.nd, ?_, ok.kind, O.calm, fun x hx => ?_, O.blt, O.defs, O.spo, takes_W0, PassesOwn.never, O.units⟩
  · show relabel scope X.env = relS scope C.sc
    unfold relabel relS
    rw [← O.sc]
    rfl
  · show (scope.names.lookup x == some .cell) = true
    rw [lookup_cell hx ok.uniq]
    rfl
theorem OkC.blkOk (O : OkC XR C X W Γ) {scope : Scope} {own : List (Str × Nat)} (hb : blkC C.N C.sc scope own = true) : BlkOk X.N X.env.scope scope own := by
  rw [O.N, O.sc]
  exact blkOk_by hb
end
def ownOf (N : List Str) (scope : Scope) : List (Str × Nat) := scope.names.filterMap fun p => match p.2 with
  | .local => if N.idxOf p.1 < N.length then some (p.1, N.idxOf p.1) else none
  | .cell => if N.idxOf p.1 < N.length then some (p.1, N.idxOf p.1) else none
  | _ => none
def set? : Expr → Bool
  | .Set .. => true
  | _ => false
theorem noFold {e : Expr} (h : set? e = false) (env : Env) (x : Value) : foldedSetIterable e env x = pure x := by cases e <;> first | rfl | cases h
section
variable {XR : XRel} (r : Rec XR) (C : Ctx)
/-! #### what is walked -/
def iterV (tg e : Expr) : CIx XR C tg e := ⟨iVal (r.E C e).1, fun X W Γ O => si_val ((r.E C e).2 X W Γ O)⟩
def stepI (tg e : Expr) : CIx XR C tg e := match e with
  | .Call (.Name x p) [a] [] pos => if h : isB C x "range" = true ∧ star? a = false then ⟨iRange1 (r.E C a).1, fun X W Γ O => by
        obtain ⟨rfl, hg, hm⟩ := isB_of O h.1
        exact si_range1 (pi_range1 hg hm (pa_cons ((r.E C a).2 X W Γ O) pa_nil (star_cons h.2)) (star_cons h.2))⟩
      else if h : isB C x "enumerate" = true ∧ star? a = false then (match tg with
        | .Tuple elts kk tpos => ⟨DD.iEnum (r.E C a).1, fun X W Γ O => by
          obtain ⟨rfl, hg, hm⟩ := isB_of O h.1
          exact si_enuA (pi_enuA hg hm (pa_cons ((r.E C a).2 X W Γ O) pa_nil (star_cons h.2)) (star_cons h.2))⟩
        | tg => failI tg _)
      else iterV r C tg _
  | .Call (.Name x p) [a, b] [] pos => if h : isB C x "range" = true ∧ star? a = false ∧ star? b = false then ⟨iRange2 (r.E C a).1 (r.E C b).1, fun X W Γ O => by
        obtain ⟨rfl, hg, hm⟩ := isB_of O h.1
        exact si_range2 (pi_range2 hg hm (pa_cons ((r.E C a).2 X W Γ O) (pa_cons ((r.E C b).2 X W Γ O) pa_nil (star_cons h.2.2)) (star_cons h.2.1)) (by rw [star_cons h.2.1, star_cons h.2.2]; rfl) (star_cons h.2.2))⟩
      else if h : isB C x "zip" = true ∧ star? a = false ∧ star? b = false then (match tg with
        | .Tuple elts kk tpos => ⟨DD.iZip (r.E C a).1 (r.E C b).1, fun X W Γ O => by
          obtain ⟨rfl, hg, hm⟩ := isB_of O h.1
          exact si_zip (pi_zipA hg hm (pa_cons ((r.E C a).2 X W Γ O) (pa_cons ((r.E C b).2 X W Γ O) pa_nil (star_cons h.2.2)) (star_cons h.2.1)) (star_cons h.2.1) (star_plain (by simp [h.2.2])))⟩
        | tg => failI tg _)
      else iterV r C tg _
  | e => iterV r C tg e
/-! #### targets -/
theorem asg_each {es : List Expr} {env : Env} (h : es.all (fun e => !star? e) = true) : (assignEach es env).length = es.length ∧ (assignEach es env).findIdx? (·.1) = none := by
  induction es with
  | nil => exact ⟨rfl, rfl⟩
  | cons e es ih =>
    simp only [List.all_cons, Bool.and_eq_true, Bool.not_eq_true'] at h
    obtain ⟨h1, h2⟩ := ih (by simpa using h.2)
    have : assignEach (e :: es) env = (false, assign e env) :: assignEach es env := by
      have h1 := h.1
      cases e <;> first | rfl | cases h1
    rw [this]
    exact ⟨by simp [h1], by rw [List.findIdx?_cons]; simp [h2]⟩
theorem asg_cons {e : Expr} {es : List Expr} {env : Env} (h : star? e = false) : (assignEach (e :: es) env).map (·.2) = assign e env :: (assignEach es env).map (·.2) := by
  cases e <;> first | rfl | cases h
def stepGs : (es : List Expr) → { f : List Nat × List SemG // f.2.length = es.length ∧ ∀ X W Γ, OkC XR C X W Γ → es.all (fun e => !star? e) = true → PGs X es (TGsv f.1 f.2) }
  | [] => ⟨([], []), rfl, fun _ _ _ _ _ => sgs_nil⟩
  | e :: es => ⟨((r.G C e).1.1 ++ (stepGs es).1.1, (r.G C e).1.2 :: (stepGs es).1.2), by simp [(stepGs es).2.1], fun X W Γ O h => by
      simp only [List.all_cons, Bool.and_eq_true, Bool.not_eq_true'] at h
      exact sgs_cons ((r.G C e).2 X W Γ O) ((stepGs es).2.2 X W Γ O (by simpa using h.2)) (asg_cons h.1)⟩
def stepG (e : Expr) : CGx XR C e := match e with
  | .Name x p => if h : C.N.idxOf x < C.N.length ∧ locB C x = true then
      ⟨([C.N.idxOf x], gSlot (C.N.idxOf x)), fun X W Γ O => by
        obtain ⟨h1, h2⟩ := loc_of O h.2
        exact sg_name (pg_name (by rw [O.N]; exact O.nd) (by rw [O.N, List.getElem?_eq_getElem h.1, List.getElem_idxOf h.1]) h1 h2)⟩ else failG _
  | .Tuple es k p => if h : es.all (fun e => !star? e) = true then
      ⟨((stepGs r C es).1.1, DD.gTup (stepGs r C es).1.2), fun X W Γ O => by
        obtain ⟨h1, h2⟩ := asg_each (env := X.env) h
        exact sg_tup (stepGs r C es).2.1.symm (pg_tup O.calm ((stepGs r C es).2.2 X W Γ O h) h1 h2)⟩ else failG _
  | _ => failG _
/-! #### comprehensions -/
def stepIfs (ifs : List Expr) : { f : SemT // ∀ X W Γ, OkC XR C X W Γ → PTs X ifs (TTv XR W Γ f) } := match ifs with
  | [] => ⟨tYesD, fun _ _ _ _ => st_yes⟩
  | [c] => ⟨(r.T C c).1, fun X W Γ O => pts_one ((r.T C c).2 X W Γ O)⟩
  | _ => ⟨tFail, fun _ _ _ _ => ⟨fun _ _ _ _ _ _ ⟨_, _, _, _, q⟩ => q.elim⟩⟩
/-- what the two readings of a comprehension (as a value, swapped into a name) share -/
structure LcC (elt : Expr) (gens : List Comprehension) (scope : Scope) where
  f : SemE
  e : ∀ pos X W Γ, OkC XR C X W Γ → PE X (.ListComp elt gens scope pos) (TEv XR W Γ f)
  s : ∀ pos spos (i : Nat) (y : Str) (py : Pos) X W Γ, OkC XR C X W Γ → X.N[i]? = some y → X.env.scope.names.lookup y = some .local → swapsWith (.ListComp elt gens scope pos) (some (.Name y py)) spos.line X.env = pure true →
    PS X (.Assign [.Name y py] (.ListComp elt gens scope pos) spos) (tAsg (TEv XR W Γ f) (gName i))
theorem asg_imp {X : Cx} {s : Stmt} {te te' : TE} {g : TG} (h : PS X s (tAsg te g)) (k : ∀ σ H Q, te' σ H Q → te σ H Q) : PS X s (tAsg te' g) := PS_imp h fun D σ H q => k σ H _ q
def lcFail (elt : Expr) (gens : List Comprehension) (scope : Scope) : LcC (XR := XR) C elt gens scope := ⟨eFail, fun _ _ _ _ _ => se_fail, fun _ _ _ _ _ _ _ _ _ _ _ _ => ⟨fun _ _ _ _ _ _ ⟨_, _, _, _, q⟩ => q.elim⟩⟩
def stepLc (elt : Expr) (gens : List Comprehension) (scope : Scope) : LcC (XR := XR) C elt gens scope := match gens with
  | [⟨tg, iter, ifs, 0⟩] =>
    let ow := ownOf C.N scope
    let C' := C.blk scope
    let i := stepI r C tg iter
    let g := r.G C' tg
    let t := stepIfs r C' ifs
    let e := r.E C' elt
    if h : blkC C.N C.sc scope ow = true ∧ (∀ j ∈ g.1.1, j ∈ ow.map (·.2)) ∧ set? iter = false then
      ⟨eLc (ow.map (·.2)) i.1 g.1.2 t.1 e.1,
       fun pos X W Γ O => se_lc h.2.1 (pe_lc O.calm (by rw [O.N]; exact O.nd) (i.2 X W Γ O) (O.blkOk h.1) (fun s H Ca cl fp => g.2 _ W0 Γ (O.block h.1 s H Ca cl fp)) (fun s H Ca cl fp => t.2 _ W0 Γ (O.block h.1 s H Ca cl fp)) (fun s H Ca cl fp => e.2 _ W0 Γ (O.block h.1 s H Ca cl fp)) (noFold h.2.2 _)),
       fun pos spos k y py X W Γ O hy hl hsw => asg_imp (ps_setLc O.calm (by rw [O.N]; exact O.nd) hy hl hsw (i.2 X W Γ O) (O.blkOk h.1) (fun s H Ca cl fp => g.2 _ W0 Γ (O.block h.1 s H Ca cl fp)) (fun s H Ca cl fp => t.2 _ W0 Γ (O.block h.1 s H Ca cl fp)) (fun s H Ca cl fp => e.2 _ W0 Γ (O.block h.1 s H Ca cl fp)) (noFold h.2.2 _)) (lc_te h.2.1)⟩
    else lcFail C _ _ _
  | [⟨tg, iter, ifs, 0⟩, ⟨tg1, iter1, ifs1, 0⟩] =>
    let ow := ownOf C.N scope
    let C' := C.blk scope
    let i := stepI r C tg iter
    let g := r.G C' tg
    let t := stepIfs r C' ifs
    let i1 := stepI r C' tg1 iter1
    let g1 := r.G C' tg1
    let t1 := stepIfs r C' ifs1
    let e := r.E C' elt
    if h : blkC C.N C.sc scope ow = true ∧ (∀ j ∈ g.1.1, j ∈ ow.map (·.2)) ∧ (∀ j ∈ g1.1.1, j ∈ ow.map (·.2)) ∧ set? iter = false ∧ set? iter1 = false then
      ⟨eLc2 (ow.map (·.2)) g1.1.1 i.1 g.1.2 t.1 i1.1 g1.1.2 t1.1 e.1,
       fun pos X W Γ O => PE_imp (pe_lc2 O.calm (by rw [O.N]; exact O.nd) (i.2 X W Γ O) (O.blkOk h.1) h.2.2.1 (fun s H Ca cl fp => g.2 _ W0 Γ (O.block h.1 s H Ca cl fp)) (fun s H Ca cl fp => t.2 _ W0 Γ (O.block h.1 s H Ca cl fp))
         (fun s H Ca cl fp => i1.2 _ W0 Γ (O.block h.1 s H Ca cl fp)) (fun s H Ca cl fp => g1.2 _ W0 Γ (O.block h.1 s H Ca cl fp)) (fun s H Ca cl fp => t1.2 _ W0 Γ (O.block h.1 s H Ca cl fp)) (fun s H Ca cl fp => e.2 _ W0 Γ (O.block h.1 s H Ca cl fp)) (noFold h.2.2.2.1 _) (noFold h.2.2.2.2)) (lc_te2 h.2.1 (fun _ h => h)),
       fun pos spos k y py X W Γ O hy hl hsw => asg_imp (ps_setLc2 O.calm (by rw [O.N]; exact O.nd) hy hl hsw (i.2 X W Γ O) (O.blkOk h.1) h.2.2.1 (fun s H Ca cl fp => g.2 _ W0 Γ (O.block h.1 s H Ca cl fp)) (fun s H Ca cl fp => t.2 _ W0 Γ (O.block h.1 s H Ca cl fp))
         (fun s H Ca cl fp => i1.2 _ W0 Γ (O.block h.1 s H Ca cl fp)) (fun s H Ca cl fp => g1.2 _ W0 Γ (O.block h.1 s H Ca cl fp)) (fun s H Ca cl fp => t1.2 _ W0 Γ (O.block h.1 s H Ca cl fp)) (fun s H Ca cl fp => e.2 _ W0 Γ (O.block h.1 s H Ca cl fp)) (noFold h.2.2.2.1 _) (noFold h.2.2.2.2)) (lc_te2 h.2.1 (fun _ h => h))⟩
    else lcFail C _ _ _
  | _ => lcFail C _ _ _
def stepDc (kx vx : Expr) (gens : List Comprehension) (scope : Scope) (pos : Pos) : CEx XR C (.DictComp kx vx gens scope pos) := match gens with
  | [⟨tg, iter, ifs, 0⟩] =>
    let ow := ownOf C.N scope
    let C' := C.blk scope
    let i := stepI r C tg iter
    let g := r.G C' tg
    let t := stepIfs r C' ifs
    let ek := r.E C' kx
    let ev := r.E C' vx
    if h : blkC C.N C.sc scope ow = true ∧ (∀ j ∈ g.1.1, j ∈ ow.map (·.2)) ∧ set? iter = false then
      ⟨eDc (ow.map (·.2)) i.1 g.1.2 t.1 ek.1 ev.1,
       fun X W Γ O => PE_imp (pe_dcT O.units O.calm (by rw [O.N]; exact O.nd) (i.2 X W Γ O) (O.blkOk h.1) (fun s H Ca cl fp => g.2 _ W0 Γ (O.block h.1 s H Ca cl fp)) (fun s H Ca cl fp => t.2 _ W0 Γ (O.block h.1 s H Ca cl fp)) (fun s H Ca cl fp => ek.2 _ W0 Γ (O.block h.1 s H Ca cl fp)) (fun s H Ca cl fp => ev.2 _ W0 Γ (O.block h.1 s H Ca cl fp)) (noFold h.2.2 _)) (dc_te h.2.1)⟩
    else failE _
  | _ => failE _
/-- dict([.. for .. in y]) -/
def stepDictLc (x : Str) (px : Pos) (elt : Expr) (gens : List Comprehension) (scope : Scope) (lp pos : Pos) : CEx XR C (.Call (.Name x px) [.ListComp elt gens scope lp] [] pos) := match gens with
  | [⟨tg, .Name y py, ifs, 0⟩] =>
    let ow := ownOf C.N scope
    let C' := C.blk scope
    let g := r.G C' tg
    let t := stepIfs r C' ifs
    let e := r.E C' elt
    if h : blkC C.N C.sc scope ow = true ∧ isB C x "dict" = true ∧ (C.N.idxOf y < C.N.length ∧ visB C.sc y = true ∧ badName y = false) then
      ⟨eDLc (C.N.idxOf y), fun X W Γ O => by
        obtain ⟨h1, h2, h3⟩ := h
        obtain ⟨rfl, hg, hm⟩ := isB_of O h2
        have hv : PE X (.Name y py) (tVar (C.N.idxOf y)) := pe_var (by rw [O.N, List.getElem?_eq_getElem h3.1, List.getElem_idxOf h3.1]) (vis_of O h3.2.1) (badName_f h3.2.2).1 (badName_f h3.2.2).2.1
        exact PE_imp (pe_callTy (call_dictP O.calm) hg hm (by decide +kernel) (pa_cons (pe_lock (pe_lc O.calm (by rw [O.N]; exact O.nd) (pi_keys hv) (O.blkOk h1) (fun s H Ca cl fp => g.2 _ W0 Γ (O.block h1 s H Ca cl fp)) (fun s H Ca cl fp => t.2 _ W0 Γ (O.block h1 s H Ca cl fp)) (fun s H Ca cl fp => e.2 _ W0 Γ (O.block h1 s H Ca cl fp)) (noFold rfl _))) pa_nil rfl) (by decide +kernel) (by decide +kernel) rfl rfl) dlc_imp⟩
    else failE _
  | _ => failE _
/-! #### expressions -/
def stepE (e : Expr) : CEx XR C e := match e with
  | .BoolOp op vs p => stepBool r C op p vs
  | .BinOp a op b p => stepBin r C a op b p
  | .UnaryOp op a p => stepUn r C op a p
  | .IfExp c a b p => ⟨eIf (r.T C c).1 (r.E C a).1 (r.E C b).1, fun X W Γ O => se_if (pe_ifExp ((r.T C c).2 X W Γ O) ((r.E C a).2 X W Γ O) ((r.E C b).2 X W Γ O))⟩
  | .ListComp elt gens scope p => ⟨(stepLc r C elt gens scope).f, (stepLc r C elt gens scope).e p⟩
  | .DictComp kx vx gens scope p => stepDc r C kx vx gens scope p
  | .Compare a ops bs p => stepCmp r C a ops bs p
  | .Call (.Name x px) [.ListComp elt gens scope lp] [] p => if x = ("dict" : Str) then stepDictLc r C x px elt gens scope lp p else stepCall r C (.Name x px) [.ListComp elt gens scope lp] [] p
  | .Call f es ks p => stepCall r C f es ks p
  | .Dict [] [] p => ⟨eDNew, fun X W Γ O => se_dnew pe_dnewK⟩
  | .Constant c k p => stepConst C c k p
  | .Subscript a b p => stepSub r C a b p
  | .Name x p => stepName C x p
  | .List es p => ⟨eLst (r.A C es).1, fun X W Γ O => se_lst (pe_lst ((r.A C es).2 X W Γ O))⟩
  | .Tuple es k p => ⟨eTup (r.A C es).1, fun X W Γ O => se_tup (pe_tup ((r.A C es).2 X W Γ O))⟩
  | _ => failE _
end
end DD
set_option Elab.async false
set_option linter.all false
set_option maxRecDepth 100000
set_option maxHeartbeats 4000000
/-! DC4: statements; the compiler by fuel. -/
namespace DD
open PySem PySem.Spec PyProof.Rows L2 RZ
def comp? : Expr → Bool
  | .ListComp .. => true
  | .SetComp .. => true
  | .DictComp .. => true
  | _ => false
theorem noSwap {e : Expr} (h : comp? e = false) (t : Option Expr) (l : Nat) (env : Env) : swapsWith e t l env = pure false := by cases e <;> first | rfl | cases h
def bkS (sc : Scope) : ScopeKind := if sc.kind.isAnnotationScope then .function else sc.kind
def swB (sc scope : Scope) (t : Str) (p pos : Pos) : Bool := bkS sc == .function && sc.names.lookup t == some .local && p.line == pos.line && !(scope.names.any fun (n, k) => n == t && (k == .local || k == .cell))
theorem swB_eq {elt : Expr} {gens : List Comprehension} {scope : Scope} {pos p : Pos} {t : Str} {l : Nat} {env : Env} : swapsWith (.ListComp elt gens scope pos) (some (.Name t p)) l env = pure (swB env.scope scope t p pos) := rfl
theorem swD_eq {kx vx : Expr} {gens : List Comprehension} {scope : Scope} {pos p : Pos} {t : Str} {l : Nat} {env : Env} : swapsWith (.DictComp kx vx gens scope pos) (some (.Name t p)) l env = pure (swB env.scope scope t p pos) := rfl
/-- the names of a tuple's stores, swapped: none where the text stores another way -/
def swT (sc : Scope) (ts vs : List Expr) : Option (Option (List Str)) :=
    if !(ts.length == 2 || ts.length == 3) || vs.length != ts.length || bkS sc != .function then some none else
    if (vs.any fun | .Starred .. => true | _ => false) then some none else
    let line := (ts.head?.map (·.pos.line)).getD 0
    let names := ts.filterMap fun
      | .Name id pos => if sc.names.lookup id == some .local && pos.line == line then some id else none
      | _ => none
    if names.length != ts.length || names.eraseDups.length != names.length then some none else
    if vs.all (foldedForSure 8) then some none else
    if vs.all (constantsAlone 8) then none else some (some names)
def swO (sc : Scope) (ts : List Expr) (value : Expr) : Option (Option (List Str)) := match value with
  | .Tuple vs _ _ => swT sc ts vs
  | _ => some none
theorem swO_eq {env : Env} {ts : List Expr} {k : Nat} {p : Pos} {v : Expr} {o : Option (List Str)} (h : swO env.scope ts v = some o) : swappedStores [.Tuple ts k p] v env = pure o := by
  cases v with
  | Tuple vs k2 p2 =>
    unfold swO swT at h
    unfold swappedStores
    dsimp only at h ⊢
    split at h
    · rename_i c
      cases h
      exact if_pos c
    · rename_i c1
      refine (if_neg c1).trans ?_
      split at h
      · rename_i c
        cases h
        exact if_pos c
      · rename_i c2
        refine (if_neg c2).trans ?_
        split at h
        · rename_i c
          cases h
          exact if_pos c
        · rename_i c3
          refine (if_neg c3).trans ?_
          split at h
          · rename_i c
            cases h
            exact if_pos c
          · rename_i c4
            refine (if_neg c4).trans ?_
            split at h
            · cases h
            · rename_i c5
              cases h
              exact if_neg c5
  | _ => cases h; rfl
section
variable {XR : XRel} (r : Rec XR) (C : Ctx)
abbrev okI (x : Str) : Prop := C.N.idxOf x < C.N.length
theorem nget {XR : XRel} {C : Ctx} {X : Cx} {W : WX} {Γ : FEnv} (O : OkC XR C X W Γ) {x : Str} (h : C.N.idxOf x < C.N.length) : X.N[C.N.idxOf x]? = some x := by
  rw [O.N, List.getElem?_eq_getElem h, List.getElem_idxOf h]
def okV (x : Str) : Bool := decide (C.N.idxOf x < C.N.length) && visB C.sc x && !badName x
theorem okV_pe {XR : XRel} {C : Ctx} {X : Cx} {W : WX} {Γ : FEnv} (O : OkC XR C X W Γ) {x : Str} {p : Pos} (h : okV C x = true) : PE X (.Name x p) (tVar (C.N.idxOf x)) := by
  unfold okV at h
  simp only [Bool.and_eq_true, decide_eq_true_eq, Bool.not_eq_true'] at h
  exact pe_var (nget O h.1.1) (vis_of O h.1.2) (badName_f h.2).1 (badName_f h.2).2.1
theorem few1 {a : Expr} {env : Env} {cpos : Pos} (hs : star? a = false) : ((backTo cpos (starEach (a :: []) env)).all (fun x => !x.1) && (backToKw cpos (keywordEach [] env)).all (fun x => x.1.isSome)
      && decide ((a :: ([] : List Expr)).length + ([] : List Keyword).length + (if ([] : List Keyword).isEmpty then 0 else 1) < 30)) = true := by
  rw [star_cons hs]; rfl
/-- x.m(a), x a name -/
theorem pe_lm {XR : XRel} {C : Ctx} {X : Cx} {W : WX} {Γ : FEnv} (O : OkC XR C X W Γ) {x name : Str} {px apos cpos : Pos} {a : Expr} {id : String} {rr : V → List V → Hp → VK → Prop} {t : TE} (h : okV C x = true) (hs : star? a = false) (hl : (apos.endLine == cpos.line) = true)
    (slot : Slot "list" name id) (hty : typeOf (.builtin id) = pure (.type "method_descriptor")) (hm : MtR X id rr) (ha : PE X a t) : PE X (.Call (.Attribute (.Name x px) name apos) [a] [] cpos) (tBM X.K "list" rr (tVar (C.N.idxOf x)) (tCons t tNil)) :=
  pe_bm PySem.F.plainAttrs_list slot hty hm (okV_pe O h) (pa_cons ha pa_nil (star_cons hs)) rfl (few1 hs) hl (star_cons hs) rfl
def exprS (e : Expr) (p : Pos) : CSx XR C (.Expr e p) := if h : comp? e = false then ⟨sExpr (r.E C e).1, fun X W Γ O => ss_expr (ps_expr ((r.E C e).2 X W Γ O) (noSwap h _ _ _))⟩ else failS _
/-- _law_spoilt(x) -/
def stepSpoV (f : Str) (pf : Pos) (x : Str) (px pos p : Pos) : CSx XR C (.Expr (.Call (.Name f pf) [.Name x px] [] pos) p) :=
  match hj : C.spo with
  | some j => if h : f = ("_law_spoilt" : Str) ∧ glB C f = true ∧ okV C x = true then
      ⟨sSpoV j (C.N.idxOf x), fun X W Γ O => by
        obtain ⟨k, g, fd, F, hr, hm, hk, hb⟩ := O.spo j hj
        obtain ⟨hg, hbad⟩ := gl_of O h.2.1
        rw [h.1] at hg hbad ⊢
        exact ss_spoV (ps_expr (pe_callSD F hr hg hm hk hb .nil (fun σ => passAt O.takes σ) (pa_cons (okV_pe O h.2.2) pa_nil rfl) (badName_f hbad).1 rfl rfl) rfl)⟩
    else exprS r C _ p
  | none => exprS r C _ p
/-- _law_spoilt(list(x[1:])) -/
def stepSpoL (f : Str) (pf : Pos) (l : Str) (pl : Pos) (x : Str) (px : Pos) (k1 : Nat) (p1 p2 p3 p4 pos p : Pos) : CSx XR C (.Expr (.Call (.Name f pf) [.Call (.Name l pl) [.Subscript (.Name x px) (.Slice (some (.Constant (.int 1) k1 p1)) none none p2) p3] [] p4] [] pos) p) :=
  match hj : C.spo with
  | some j => if h : (f = ("_law_spoilt" : Str) ∧ glB C f = true) ∧ isB C l "list" = true ∧ okV C x = true then
      ⟨sSpoL j (C.N.idxOf x), fun X W Γ O => by
        obtain ⟨k, g, fd, F, hr, hm, hk, hb⟩ := O.spo j hj
        obtain ⟨hg, hbad⟩ := gl_of O h.1.2
        obtain ⟨rfl, hg2, hm2⟩ := isB_of O h.2.1
        rw [h.1.1] at hg hbad ⊢
        have q := pe_slice (p2 := p2) (pos := p3) (sl_any (X := X)) (okV_pe (p := px) O h.2.2) (po_some (pe_int (i := 1) (j := k1) (pos := p1))) (po_none (X := X))
        have q2 := pe_callTy (p := pl) (pos := p4) call_list_of hg2 hm2 (by decide +kernel) (pa_cons q pa_nil rfl) (by decide +kernel) (by decide +kernel) rfl rfl
        exact ss_spoL (ps_expr (pe_callSD F hr hg hm hk hb .nil (fun σ => passAt O.takes σ) (pa_cons q2 pa_nil rfl) (badName_f hbad).1 rfl rfl) rfl)⟩
    else exprS r C _ p
  | none => exprS r C _ p
def stepX (e : Expr) (p : Pos) : CSx XR C (.Expr e p) := match e with
  | .Constant (.str x) k p2 => ⟨sNil, fun X W Γ O => ss_nil ps_doc⟩
  | .Call (.Name f pf) [.Name x px] [] pos => stepSpoV r C f pf x px pos p
  | .Call (.Name f pf) [.Call (.Name l pl) [.Subscript (.Name x px) (.Slice (some (.Constant (.int 1) k1 p1)) none none p2) p3] [] p4] [] pos => stepSpoL r C f pf l pl x px k1 p1 p2 p3 p4 pos p
  | .Call (.Attribute (.Name x px) m apos) [.Call (.Attribute (.Name y py) m2 apos2) [b] [] cpos2] [] cpos =>
    if h : (m = ("append" : Str) ∧ m2 = ("pop" : Str)) ∧ (okV C x = true ∧ okV C y = true) ∧ star? b = false ∧ (apos.endLine == cpos.line) = true ∧ (apos2.endLine == cpos2.line) = true then
      ⟨sAppPop (C.N.idxOf x) (C.N.idxOf y) (r.E C b).1, fun X W Γ O => by
        obtain ⟨⟨rfl, rfl⟩, ⟨h1, h2⟩, h3, h4, h5⟩ := h
        exact ss_appPop (ps_expr (pe_lm O h1 rfl h4 PySem.F.slot_list_append PySem.F.type_list_append mt_append (pe_lm O h2 h3 h5 PySem.F.slot_list_pop PySem.F.type_list_pop mt_popAt ((r.E C b).2 X W Γ O))) rfl)⟩
    else failS _
  | .Call (.Attribute (.Name x px) m apos) [b] [] cpos =>
    if h : (m = ("append" : Str)) ∧ okV C x = true ∧ star? b = false ∧ (apos.endLine == cpos.line) = true then
      ⟨sApp (C.N.idxOf x) (r.E C b).1, fun X W Γ O => by
        obtain ⟨rfl, h1, h3, h4⟩ := h
        exact ss_app (ps_expr (pe_lm O h1 h3 h4 PySem.F.slot_list_append PySem.F.type_list_append mt_append ((r.E C b).2 X W Γ O)) rfl)⟩
    else if h : (m = ("extend" : Str)) ∧ okV C x = true ∧ star? b = false ∧ (apos.endLine == cpos.line) = true then
      ⟨sExt (C.N.idxOf x) (r.E C b).1, fun X W Γ O => by
        obtain ⟨rfl, h1, h3, h4⟩ := h
        exact ss_ext (ps_expr (pe_lm O h1 h3 h4 PySem.F.slot_list_extend PySem.F.type_list_extend mt_extend ((r.E C b).2 X W Γ O)) rfl)⟩
    else failS _
  | e => exprS r C e p
def setS' (x : Str) (p' : Pos) (e : Expr) (p : Pos) : CSx XR C (.Assign [.Name x p'] e p) :=
  if h : C.N.idxOf x < C.N.length ∧ locB C x = true ∧ comp? e = false then
    ⟨sSet (C.N.idxOf x) (r.E C e).1, fun X W Γ O => by
      obtain ⟨h1, h2⟩ := loc_of O h.2.1
      exact ss_set (ps_set (by rw [O.N]; exact O.nd) (nget O h.1) h1 ((r.E C e).2 X W Γ O) (noSwap h.2.2 _ _ _) h2)⟩ else failS _
def stepSet (x : Str) (p' : Pos) (e : Expr) (p : Pos) : CSx XR C (.Assign [.Name x p'] e p) := match e with
  | .ListComp elt gens scope pos =>
    if h : C.N.idxOf x < C.N.length ∧ locB C x = true then
      (if hs : swB C.sc scope x p' pos = true then
        ⟨sSet (C.N.idxOf x) (stepLc r C elt gens scope).f, fun X W Γ O => by
          refine ss_set ((stepLc r C elt gens scope).s pos p (C.N.idxOf x) x p' X W Γ O (nget O h.1) ?_ ?_)
          · unfold swB at hs
            simp only [Bool.and_eq_true, beq_iff_eq] at hs
            rw [O.sc]; exact hs.1.1.2
          · rw [swB_eq, O.sc, hs]⟩
      else ⟨sSet (C.N.idxOf x) (stepLc r C elt gens scope).f, fun X W Γ O => by
          obtain ⟨h1, h2⟩ := loc_of O h.2
          exact ss_set (ps_set (by rw [O.N]; exact O.nd) (nget O h.1) h1 ((stepLc r C elt gens scope).e pos X W Γ O) (by rw [swB_eq, O.sc]; simp at hs; rw [hs]) h2)⟩)
    else failS _
  | .DictComp kx vx gens scope pos =>
    if h : C.N.idxOf x < C.N.length ∧ locB C x = true ∧ swB C.sc scope x p' pos = false then
      ⟨sSet (C.N.idxOf x) (r.E C (.DictComp kx vx gens scope pos)).1, fun X W Γ O => by
          obtain ⟨h1, h2⟩ := loc_of O h.2.1
          exact ss_set (ps_set (by rw [O.N]; exact O.nd) (nget O h.1) h1 ((r.E C (.DictComp kx vx gens scope pos)).2 X W Γ O) (by rw [swD_eq, O.sc, h.2.2]) h2)⟩
    else failS _
  | .Call (.Attribute (.Name y py) m apos) [b] [] cpos =>
    if h : (m = ("pop" : Str)) ∧ (C.N.idxOf x < C.N.length ∧ locB C x = true) ∧ okV C y = true ∧ star? b = false ∧ (apos.endLine == cpos.line) = true then
      ⟨sPop (C.N.idxOf x) (C.N.idxOf y) (r.E C b).1, fun X W Γ O => by
        obtain ⟨rfl, ⟨h1, h2⟩, h3, h4, h5⟩ := h
        obtain ⟨k1, k2⟩ := loc_of O h2
        exact ss_pop (ps_set (by rw [O.N]; exact O.nd) (nget O h1) k1 (pe_lm O h3 h4 h5 PySem.F.slot_list_pop PySem.F.type_list_pop mt_popAt ((r.E C b).2 X W Γ O)) rfl k2)⟩
    else setS' r C x p' _ p
  | e => setS' r C x p' e p
def stepPut (x : Str) (px : Pos) (k : Expr) (p' : Pos) (e : Expr) (p : Pos) : CSx XR C (.Assign [.Subscript (.Name x px) k p'] e p) :=
  if h : okV C x = true ∧ sl? k = false then
    ⟨sPut (C.N.idxOf x) (r.E C k).1 (r.E C e).1, fun X W Γ O => ss_put (ps_asg ((r.E C e).2 X W Γ O) (pg_sub (okV_pe O h.1) ((r.E C k).2 X W Γ O) set_list (fun v => by have := h.2; cases k <;> first | rfl | cases this)) (by cases e <;> rfl) (by cases e <;> rfl) rfl)⟩
  else failS _
/-- z = abs(x[c].pop(b)) -/
def stepAbs (z : Str) (pz : Pos) (f : Str) (pf : Pos) (x : Str) (px : Pos) (c : Int) (kc : Nat) (pc p1 : Pos) (m : Str) (apos : Pos) (b : Expr) (cpos pos p : Pos) :
    CSx XR C (.Assign [.Name z pz] (.Call (.Name f pf) [.Call (.Attribute (.Subscript (.Name x px) (.Constant (.int c) kc pc) p1) m apos) [b] [] cpos] [] pos) p) :=
  if h : (m = ("pop" : Str)) ∧ (C.N.idxOf z < C.N.length ∧ locB C z = true) ∧ okV C x = true ∧ star? b = false ∧ (apos.endLine == cpos.line) = true ∧ 0 ≤ c ∧ isB C f "abs" = true then
    ⟨sAbsPopIn (C.N.idxOf z) (C.N.idxOf x) c.toNat (r.E C b).1, fun X W Γ O => by
      obtain ⟨rfl, ⟨h1, h2⟩, h3, h4, h5, h6, h7⟩ := h
      obtain ⟨k1, k2⟩ := loc_of O h2
      obtain ⟨rfl, hg, hm⟩ := isB_of O h7
      have hc : (c.toNat : Int) = c := Int.toNat_of_nonneg h6
      have q := pe_ix (pos := p1) (ix_any (X := X) (by have := O.units; omega)) (okV_pe (p := px) O h3) (pe_int (i := c) (j := kc) (pos := pc)) (plainIx rfl)
      have q2 := pe_bm (apos := apos) (cpos := cpos) PySem.F.plainAttrs_list PySem.F.slot_list_pop PySem.F.type_list_pop mt_popAt q (pa_cons ((r.E C b).2 X W Γ O) pa_nil (star_cons h4)) rfl (few1 h4) h5 (star_cons h4) rfl
      have q3 := pe_callB (p := pf) (pos := pos) call_abs hg hm (by decide +kernel) (pa_cons q2 pa_nil rfl) (by decide +kernel) (by decide +kernel) rfl rfl
      refine ss_absPopIn (ps_set (by rw [O.N]; exact O.nd) (nget O h1) k1 (PE_imp q3 fun σ H Q z => ?_) rfl k2)
      rw [hc] at z
      exact z⟩
  else failS _
def nilL : Expr → Bool
  | .List [] _ => true
  | _ => false
def unpS (ts : List Expr) (kt : Nat) (pt : Pos) (e : Expr) (p : Pos) : CSx XR C (.Assign [.Tuple ts kt pt] e p) :=
  if h : swO C.sc ts e = some none then
    ⟨sUnp (r.G C (.Tuple ts kt pt)).1.2 (r.E C e).1, fun X W Γ O => ss_unp (ps_asg ((r.E C e).2 X W Γ O) ((r.G C (.Tuple ts kt pt)).2 X W Γ O) (by cases e <;> rfl) (swO_eq (by rw [O.sc]; exact h)) rfl)⟩
  else failS _
def stepTup (ts : List Expr) (kt : Nat) (pt : Pos) (e : Expr) (p : Pos) : CSx XR C (.Assign [.Tuple ts kt pt] e p) := match ts, e with
  | [.Name x px, .Name y py], .Tuple [a, b] k2 pt2 =>
    if h : swO C.sc [.Name x px, .Name y py] (.Tuple [a, b] k2 pt2) = some (some [x, y]) ∧ (C.N.idxOf x < C.N.length ∧ C.N.idxOf y < C.N.length) ∧ C.N.idxOf x ≠ C.N.idxOf y ∧ (C.sc.names.lookup x = some .local ∧ C.sc.names.lookup y = some .local) ∧ star? a = false ∧ star? b = false then
      ⟨sPar2 (C.N.idxOf x) (C.N.idxOf y) (r.E C a).1 (r.E C b).1, fun X W Γ O => by
        obtain ⟨h1, ⟨h2, h3⟩, h4, ⟨h5, h6⟩, h7, h8⟩ := h
        exact ss_par2 h4 (ps_par O.calm (by rw [O.N]; exact O.nd) (nget O h2) (nget O h3) h4 (by rw [O.sc]; exact h5) (by rw [O.sc]; exact h6) (pa_cons ((r.E C a).2 X W Γ O) (pa_cons ((r.E C b).2 X W Γ O) pa_nil (star_cons h8)) (star_cons h7)) (swO_eq (by rw [O.sc]; exact h1)) rfl)⟩
    else if h : swO C.sc [.Name x px, .Name y py] (.Tuple [a, b] k2 pt2) = some none ∧ (nilL a || nilL b) = true ∧ (C.N.idxOf x < C.N.length ∧ C.N.idxOf y < C.N.length) ∧ C.N.idxOf x ≠ C.N.idxOf y ∧ (locB C x = true ∧ locB C y = true) ∧ star? a = false ∧ star? b = false then
      ⟨sPar2 (C.N.idxOf x) (C.N.idxOf y) (r.E C a).1 (r.E C b).1, fun X W Γ O => by
        obtain ⟨h1, _, ⟨h2, h3⟩, h4, ⟨h5, h6⟩, h7, h8⟩ := h
        obtain ⟨l1, l2⟩ := loc_of O h5
        obtain ⟨m1, m2⟩ := loc_of O h6
        exact ss_unpN h4 (ps_asg (pe_tup (pa_cons ((r.E C a).2 X W Γ O) (pa_cons ((r.E C b).2 X W Γ O) pa_nil (star_cons h8)) (star_cons h7))) (pg_tup O.calm (pgs_cons (pg_name (by rw [O.N]; exact O.nd) (nget O h2) l1 l2) (pgs_cons (pg_name (by rw [O.N]; exact O.nd) (nget O h3) m1 m2) pgs_nil))) rfl (swO_eq (by rw [O.sc]; exact h1)) rfl)⟩
    else unpS r C _ kt pt _ p
  | ts, e => unpS r C ts kt pt e p
def stepS (s : Stmt) : CSx XR C s := match s with
  | .Pass p => ⟨sNil, fun X W Γ O => ss_nil ps_pass⟩
  | .Break p => ⟨sBrk, fun X W Γ O => ss_brk ps_break⟩
  | .Continue p => ⟨sCont, fun X W Γ O => ss_cont ps_continue⟩
  | .Return none p => ⟨sRetN, fun X W Γ O => ss_retN ps_retN⟩
  | .Return (some (.Name x px)) p => if h : okV C x = true then ⟨sRetV (C.N.idxOf x), fun X W Γ O => ss_retV (ps_ret (okV_pe O h))⟩ else failS _
  | .Return (some (.IfExp c (.Call (.Name t pt) [.Name y py] [] pc) (.Name x px) pi)) p => if h : okV C x = true ∧ x = y ∧ isB C t "tuple" = true then
      ⟨sIf (r.T C c).1 (sRetT (C.N.idxOf x)) (sRetV (C.N.idxOf x)), fun X W Γ O => by
        obtain ⟨h1, rfl, h3⟩ := h
        obtain ⟨rfl, hg, hm⟩ := isB_of O h3
        exact ss_retIf (ps_ret (pe_ifExp ((r.T C c).2 X W Γ O) (pe_callTy call_tuple_of hg hm (by decide +kernel) (pa_cons (okV_pe O h1) pa_nil rfl) (by decide +kernel) (by decide +kernel) rfl rfl) (okV_pe O h1))) retT_imp retV_imp⟩
      else ⟨sRet (r.E C (.IfExp c (.Call (.Name t pt) [.Name y py] [] pc) (.Name x px) pi)).1, fun X W Γ O => ss_ret (ps_ret ((r.E C _).2 X W Γ O))⟩
  | .Return (some e) p => ⟨sRet (r.E C e).1, fun X W Γ O => ss_ret (ps_ret ((r.E C e).2 X W Γ O))⟩
  | .If c a b p => ⟨sIf (r.T C c).1 (r.B C a).1 (r.B C b).1, fun X W Γ O => ss_if (ps_if ((r.T C c).2 X W Γ O) ((r.B C a).2 X W Γ O) ((r.B C b).2 X W Γ O))⟩
  | .While c b [] p => ⟨sWhile (r.T C c).1 (r.B C b).1, fun X W Γ O => ss_while (ps_while O.pass ((r.T C c).2 X W Γ O) ((r.B C b).2 X W Γ O))⟩
  | .For tg e b [] p => if h : set? e = false then ⟨sFor (stepI r C tg e).1 (r.G C tg).1.2 (r.B C b).1, fun X W Γ O => ss_for (ps_for O.pass O.calm ((stepI r C tg e).2 X W Γ O) ((r.G C tg).2 X W Γ O) ((r.B C b).2 X W Γ O) (noFold h _))⟩ else failS _
  | .Expr e p => stepX r C e p
  | .Assign [.Name z pz] (.Call (.Name f pf) [.Call (.Attribute (.Subscript (.Name x px) (.Constant (.int c) kc pc) p1) m apos) [b] [] cpos] [] pos) p => stepAbs r C z pz f pf x px c kc pc p1 m apos b cpos pos p
  | .Assign [.Name x p'] e p => stepSet r C x p' e p
  | .Assign [.Subscript (.Name x px) k p'] e p => stepPut r C x px k p' e p
  | .Assign [.Tuple ts kt pt] e p => stepTup r C ts kt pt e p
  | _ => failS _
def stepB : (s : List Stmt) → CBx XR C s
  | [] => ⟨sNil, fun X W Γ O => ss_nils⟩
  | s :: ss => ⟨sSeq (r.S C s).1 (r.B C ss).1, fun X W Γ O => ss_seq ((r.S C s).2 X W Γ O) ((r.B C ss).2 X W Γ O)⟩
end
def comp (XR : XRel) : Nat → Rec XR
  | 0 => rec0 XR
  | n + 1 => ⟨stepE (comp XR n), stepT (comp XR n), stepA (comp XR n), stepG (comp XR n), stepS (comp XR n), stepB (comp XR n)⟩
end DD
set_option Elab.async false
set_option linter.all false
set_option maxRecDepth 100000
set_option maxHeartbeats 4000000
namespace DD
open PySem PySem.Spec PyProof.Rows L2 RZ
theorem lookup_zip {us : List Value} : ∀ {names : List Str}, names.Nodup → us.length = names.length → (∀ n ∈ names, ((names.zip us).lookup n).isSome) ∧ names.filterMap (fun n => ((names.zip us).lookup n).map (n, ·)) = names.zip us := by
  induction us with
  | nil => intro names _ hl; cases names with
    | nil => exact ⟨by simp, rfl⟩
    | cons n ns => simp at hl
  | cons u us ih =>
    intro names hn hl
    cases names with
    | nil => simp at hl
    | cons n ns =>
      obtain ⟨h1, h2⟩ := List.nodup_cons.mp hn
      obtain ⟨k1, k2⟩ := ih h2 (by simpa using hl)
      have key : ∀ m ∈ ns, List.lookup m ((n, u) :: ns.zip us) = (ns.zip us).lookup m := fun m hm => by
        have : (m == n) = false := by
          rw [beq_eq_false_iff_ne]; exact fun c => h1 (c ▸ hm)
        simp [List.lookup_cons, this]
      refine ⟨fun m hm => ?_, ?_⟩
      · rcases List.mem_cons.mp hm with rfl | hm
        · simp [List.lookup_cons]
        · show (List.lookup m ((n, u) :: ns.zip us)).isSome
          rw [key m hm]; exact k1 m hm
      · show List.filterMap _ (n :: ns) = (n, u) :: ns.zip us
        rw [List.filterMap_cons]
        have e0 : List.lookup n ((n :: ns).zip (u :: us)) = some u := by simp [List.lookup_cons]
        rw [e0]
        show (n, u) :: List.filterMap _ ns = _
        congr 1
        refine Eq.trans ?_ k2
        have : ∀ (l : List Str), (∀ m ∈ l, m ∈ ns) → l.filterMap (fun n_1 => Option.map (fun x => (n_1, x)) (List.lookup n_1 ((n, u) :: ns.zip us))) = l.filterMap (fun n => ((ns.zip us).lookup n).map (n, ·)) := fun l => by
          induction l with
          | nil => intro _; rfl
          | cons m l ih =>
            intro hs
            rw [List.filterMap_cons, List.filterMap_cons, key m (hs m List.mem_cons_self), ih fun m hm => hs m (List.mem_cons_of_mem _ hm)]
        exact this ns fun m hm => hm
theorem bind_plain {x qual : Str} {as : List Arg} {body : List Stmt} {scope : Scope} (hn : (as.map (·.arg)).Nodup) (kV doc pm : Value) (an : Option Addr) (cdv ct : Value) (us : List Value) (hl : us.length = (as.map (·.arg)).length) :
    bindArgs (PySem.W.fnOf x qual ⟨[], as, none, [], [], none, []⟩ body scope .none kV doc pm an cdv ct) ⟨us, []⟩ = pure ((as.map (·.arg)).zip us) := by
  obtain ⟨k1, k2⟩ := lookup_zip hn hl
  unfold bindArgs
  have e1 : seqItems? (PySem.W.fnOf x qual ⟨[], as, none, [], [], none, []⟩ body scope .none kV doc pm an cdv ct).defaults = pure none := rfl
  rw [e1]
  have hlen : us.length = as.length := by simpa using hl
  simp [PySem.W.fnOf, hlen, k2]
  rw [if_neg ?_, ← List.filterMap_map, k2]
  rw [List.filter_eq_nil_iff.mpr ?_]
  · simp
  · intro a ha
    have : a ∈ as.map (·.arg) := by
      have := List.mem_of_mem_take ha
      simpa using this
    have := k1 a this
    revert this
    cases List.lookup a ((as.map (·.arg)).zip us) <;> simp
end DD
set_option Elab.async false
set_option linter.all false
set_option maxRecDepth 100000
set_option maxHeartbeats 4000000
/-! DE1: defs, their meanings, their promises. -/
namespace DD
open PySem PySem.Spec PyProof.Rows L2 RZ
/-! ### names of a def -/
def ownS : Expr → List Str
  | .ListComp _ _ sc _ => (sc.names.filter fun p => (p.2 == .local || p.2 == .cell) && p.1 != (".0" : Str)).map (·.1)
  | .DictComp _ _ _ sc _ => (sc.names.filter fun p => (p.2 == .local || p.2 == .cell) && p.1 != (".0" : Str)).map (·.1)
  | _ => []
def kidsC (g : Comprehension) : List Expr := g.target :: g.iter :: g.ifs
def kids : Expr → List Expr
  | .BoolOp _ vs _ => vs
  | .BinOp a _ b _ => [a, b]
  | .UnaryOp _ a _ => [a]
  | .IfExp a b c _ => [a, b, c]
  | .Dict ks vs _ => ks.filterMap id ++ vs
  | .ListComp e gs _ _ => e :: gs.flatMap kidsC
  | .DictComp k v gs _ _ => k :: v :: gs.flatMap kidsC
  | .Compare a _ bs _ => a :: bs
  | .Call f es ks _ => f :: es ++ ks.map (·.value)
  | .Attribute a _ _ => [a]
  | .Subscript a b _ => [a, b]
  | .Starred a _ => [a]
  | .List es _ => es
  | .Tuple es _ _ => es
  | .Slice a b c _ => a.toList ++ b.toList ++ c.toList
  | _ => []
def cn : Nat → Expr → List Str
  | 0, _ => []
  | n + 1, e => ownS e ++ (kids e).flatMap (cn n)
def sn : Nat → Stmt → List Str
  | 0, _ => []
  | n + 1, s => match s with
    | .Return (some e) _ => cn 40 e
    | .Assign ts e _ => ts.flatMap (cn 40) ++ cn 40 e
    | .For t i b o _ => cn 40 t ++ cn 40 i ++ b.flatMap (sn n) ++ o.flatMap (sn n)
    | .While t b o _ => cn 40 t ++ b.flatMap (sn n) ++ o.flatMap (sn n)
    | .If t b o _ => cn 40 t ++ b.flatMap (sn n) ++ o.flatMap (sn n)
    | .Expr e _ => cn 40 e
    | _ => []
def dedup : List Str → List Str → List Str
  | acc, [] => acc.reverse
  | acc, x :: xs => if acc.contains x then dedup acc xs else dedup (x :: acc) xs
def psOf (p : Arguments) : List Str := p.args.map (·.arg)
def namesOf (p : Arguments) (body : List Stmt) (sc : Scope) : List Str :=
  dedup [] (psOf p ++ (sc.names.filter fun p => p.2 == .local || p.2 == .cell).map (·.1) ++ body.flatMap (sn 40))
def plainP (p : Arguments) : Bool := p.posonlyargs.isEmpty && p.vararg.isNone && p.kwonlyargs.isEmpty && p.kw_defaults.isEmpty && p.kwarg.isNone && p.defaults.isEmpty
def scB (N ps : List Str) (sc : Scope) : Bool := decide (sc.kind = .function) && !sc.isCoroutine && !sc.isGenerator && decide N.Nodup && decide (N.take ps.length = ps) &&
  (ps.all fun x => match sc.names.lookup x with
    | some .local => true
    | some .cell => true
    | _ => false) && sc.names.all fun y => match y.2 with
    | .free => false
    | _ => true
theorem scB_ok {N ps : List Str} {sc : Scope} (h : scB N ps sc = true) : FnScope N ps sc := by
  unfold scB at h
  simp only [Bool.and_eq_true, decide_eq_true_eq, Bool.not_eq_true', List.all_eq_true] at h
  obtain ⟨⟨⟨⟨⟨⟨h1, h2⟩, h3⟩, h4⟩, h5⟩, h6⟩, h7⟩ := h
  refine ⟨h1, h2, h3, h4, h5, fun x hx => ?_, fun y hy e => ?_⟩
  · have := h6 x hx
    split at this
    · rename_i e; exact .inl e
    · rename_i e; exact .inr e
    · cases this
  · have := h7 y hy
    rw [e] at this
    cases this
abbrev Tab := List (Str × Nat × List Str)
def ctxOf (tab : Tab) (spo : Option Nat) (p : Arguments) (body : List Stmt) (sc : Scope) : Ctx := ⟨namesOf p body sc, sc, namesOf p body sc, tab, spo⟩
def cfuel : Nat := 100
def startD (N : List Str) (xs : List Vl) : SD := xs.map (fun x => some ⟨x, .no⟩) ++ List.replicate (N.length - xs.length) none
def retO : Out → M (Vl × Fr)
  | .rt v f _ => .ret (v, f)
  | .nx _ => .ret (.dat .none, .all)
  | _ => .fail
/-- a def's meaning -/
def semD (XR : XRel) (tab : Tab) (spo : Option Nat) (p : Arguments) (body : List Stmt) (sc : Scope) (Γ : FEnv) (xs : List Vl) : M (Vl × Fr) :=
  if xs.length = (psOf p).length then ((comp XR cfuel).B (ctxOf tab spo p body sc) body).1 Γ (startD (namesOf p body sc) xs) >>= retO else .fail
/-- what a context's defs promise at a level -/
structure Lvl (XR : XRel) (P : Program) (w : World) (K : PySem.W.Frag) (mg : Str → Option Value) (base : Heap) (tab : Tab) (spo : Option Nat) (k : Nat) (Γ : FEnv) : Prop where
  defs : ∀ x i ps, tab.lookup x = some (i, ps) → ∃ f fd, FnOk P w K mg base (L2.CX P w) k f fd ps (SpG XR ps.length (Γ i)) ∧ mg x = some (.ref f) ∧ PySem.W.keepIn K (.ref f) = true ∧ Binds K fd ps [] ∧
    (∀ xs, xs.length ≠ ps.length → Γ i xs = .fail) ∧ BindR K fd ps
  spo : ∀ j, spo = some j → ∃ f fd, FnOk P w K mg base (L2.CX P w) k f fd ["thing"] (spSp (Γ j)) ∧ mg "_law_spoilt" = some (.ref f) ∧ PySem.W.keepIn K (.ref f) = true ∧ Binds K fd ["thing"] []
  blt : ∀ x, bltNames.contains x = true → mg x = none
theorem start_len {N : List Str} {vs : List V} (h : vs.length ≤ N.length) : (L2.start N vs).length = N.length := by
  unfold L2.start
  simp
  omega
theorem vrl_len {st : StT} {H : Hp} {xs : List Vl} {vs : List V} {fs : List (List Addr)} (h : VRL st H xs vs fs) : xs.length = vs.length := by
  induction h with
  | nil => rfl
  | cons _ _ ih => simp [ih]
theorem vrl_get {st : StT} {H : Hp} {xs : List Vl} {vs : List V} {fs : List (List Addr)} (h : VRL st H xs vs fs) : ∀ {i : Nat} {x : Vl}, xs[i]? = some x → ∃ v, vs[i]? = some v ∧ VR st H x v (fs.getD i []) ∧ (fs.getD i [] ∈ fs) := by
  induction h with
  | nil => intro i x e; simp at e
  | cons r t ih =>
    intro i x e
    cases i with
    | zero => simp at e; subst e; exact ⟨_, rfl, r, by simp⟩
    | succ i =>
      obtain ⟨v, e1, e2, e3⟩ := ih (i := i) (x := x) (by simpa using e)
      refine ⟨v, by simpa using e1, ?_, ?_⟩
      · simpa using e2
      · simpa using Or.inr e3
theorem startD_get {N : List Str} {xs : List Vl} {i : Nat} {s : Sl} (h : (startD N xs)[i]? = some (some s)) : ∃ x, xs[i]? = some x ∧ s = ⟨x, .no⟩ := by
  unfold startD at h
  by_cases hi : i < xs.length
  · rw [List.getElem?_append_left (by simpa using hi)] at h
    rw [List.getElem?_map, List.getElem?_eq_getElem hi] at h
    simp at h
    exact ⟨_, List.getElem?_eq_getElem hi, h.symm⟩
  · rw [List.getElem?_append_right (by simpa using hi)] at h
    rw [List.getElem?_replicate] at h
    split at h <;> simp at h
/-- the frame at a def's entry -/
theorem inv_entry {A : Addr → Prop} {st : StT} {b : Nat} {N : List Str} {xs : List Vl} {vs : List V} {fs : List (List Addr)} {H : Hp} (hn : xs.length ≤ N.length) (h : VRL st H xs vs fs) (ha : ∀ f ∈ fs, ∀ a ∈ f, A a ∧ ¬ stC st a) (s : StOk st b H) :
    InvD A H st b (startD N xs) (fun i => fs.getD i []) (L2.start N vs) H := by
  have hl := vrl_len h
  refine ⟨?_, .refl, s, fun i sl e => ?_, fun i sl e a z => ?_, fun i sl e => ?_⟩
  · rw [start_len (by omega)]; unfold startD; simp; omega
  · obtain ⟨x, e1, rfl⟩ := startD_get e
    obtain ⟨v, e2, e3, _⟩ := vrl_get h e1
    refine ⟨v, ?_, e3⟩
    unfold L2.start
    have hi : i < vs.length := (List.getElem?_eq_some_iff.mp e2).1
    rw [List.getElem?_append_left (by simpa using hi), List.getElem?_map, e2]
    rfl
  · obtain ⟨x, e1, rfl⟩ := startD_get e
    obtain ⟨v, e2, e3, e4⟩ := vrl_get h e1
    obtain ⟨h1, h2⟩ := ha _ e4 a z
    exact ⟨.inl h1, h2⟩
  · obtain ⟨x, e1, rfl⟩ := startD_get e
    exact ⟨trivial, fun a z => nomatch z⟩
section
variable {XR : XRel} {P : Program} {w : World} {K : PySem.W.Frag} {mg : Str → Option Value} {base : Heap} {tab : Tab} {spo : Option Nat}
theorem okC_def {k : Nat} {Γ : FEnv} (L : Lvl XR P w K mg base tab spo k Γ) {p : Arguments} {body : List Stmt} {sc : Scope} (hsc : scB (namesOf p body sc) (psOf p) sc = true) {qual : Str} {f : Addr} {cdv : Value} {A : Around} {outer : List Env} {s : Shared} {H : Hp} {E : XK}
    (hr : Room k (A.deeper (envOfC qual sc s.heap.objs.size f cdv))) : OkC XR (ctxOf tab spo p body sc) (cxOf (L2.CX P w) P w K mg base (namesOf p body sc) qual sc f cdv A outer s H E) (fun cls d _ H => E cls d H) Γ := by
  have S := scB_ok hsc
  refine ⟨rfl, S.nd, rfl, S.kind, rfl, fun _ _ => rfl, L.blt, fun x i ps h => ?_, ?_, takes_of rfl rfl rfl rfl, passes_of rfl, ?_⟩
  · obtain ⟨f, fd, F, hm, hk, hb, hg, hkw⟩ := L.defs x i ps h
    exact ⟨k, f, fd, F, hr, hm, hk, hb, hg, hkw⟩
  · intro j hj
    obtain ⟨f, fd, F, hm, hk, hb⟩ := L.spo j hj
    exact ⟨k, f, fd, F, hr, hm, hk, hb⟩
  · have := hr.un
    show (A.deeper (envOfC qual sc s.heap.objs.size f cdv)).units + 200 < cLine
    omega
/-- a def keeps what its meaning says -/
theorem fn_sem {k : Nat} {Γ : FEnv} (L : Lvl XR P w K mg base tab spo k Γ) {x qual : Str} {p : Arguments} {body : List Stmt} {sc : Scope} {f : Addr} {fd : FuncData} (F : FunD K x qual p body sc [] [] f fd) (hsc : scB (namesOf p body sc) (psOf p) sc = true) :
    FnOk P w K mg base (L2.CX P w) (k + 1) f fd (psOf p) (SpG XR (psOf p).length (semD XR tab spo p body sc Γ)) := by
  have S := scB_ok hsc
  refine F.ok S (fun vs H Q E h => h.1) fun cdv A outer s H vs Q E hr hsp => ?_
  obtain ⟨hlen, A0, st, b, xs, fs, vr, ha, so, wp⟩ := hsp
  have O := okC_def (E := E) (H := H) (outer := outer) L hsc hr
  refine ⟨TSv XR (fun cls d _ H => E cls d H) Γ ((comp XR cfuel).B (ctxOf tab spo p body sc) body).1, ((comp XR cfuel).B (ctxOf tab spo p body sc) body).2 _ _ _ O, ?_⟩
  have hxl : xs.length = (psOf p).length := (vrl_len vr).trans hlen
  unfold semD at wp
  rw [if_pos hxl] at wp
  have hN : xs.length ≤ (namesOf p body sc).length := by
    rw [hxl]
    have := congrArg List.length S.pre
    rw [List.length_take] at this
    omega
  refine ⟨⟨A0, H, st, startD (namesOf p body sc) xs, fun i => fs.getD i [], L2.start (namesOf p body sc) vs⟩, b, rfl, inv_entry hN vr ha so, wpB_mono (fun b' o z => ?_) (fun b' x z cls d σ' H' e' s' xr => z cls d H' e' s' xr) _ _ ((wpB_bind _ _).mp wp)⟩
  cases o with
  | nx σd => exact fun fps σ H' I => z .non H' [] I.ext I.strm .non (fun a h => nomatch h) List.nodup_nil (fun a h => nomatch h)
  | bk σd => exact (show False from z).elim
  | ct σd => exact (show False from z).elim
  | rt v fr σd => exact fun fps σ v' H' fp I vr own fr1 fr2 _ => z v' H' fp I.ext I.strm vr own fr1 fr2
/-- nothing is promised where the meaning fails -/
theorem fn_fail {k : Nat} {f : Addr} {fd : FuncData} {ps : List Str} {g : List Vl → M (Vl × Fr)} (h : ∀ xs, g xs = .fail) : FnOk P w K mg base (L2.CX P w) k f fd ps (SpG XR ps.length g) :=
  ⟨fun vs H Q E h => h.1, fun A outer s H args us vs Q E _ _ _ _ ⟨_, A0, st, b, xs, fs, vr, ha, so, wp⟩ => by rw [h] at wp; exact (show False from wp).elim⟩
end
end DD
set_option Elab.async false
set_option linter.all false
set_option maxRecDepth 100000
set_option maxHeartbeats 4000000
/-! DX2: the spoiling def keeps its promise. -/
namespace DD
open PySem PySem.Spec PyProof.Rows L2 RZ
structure SpoTx (d : He.DefD) : Prop where
  ps : psOf d.params = (["thing"] : List Str)
  sc : FnScope ["thing", "part"] ["thing"] d.scope
  run : ∀ (X : Cx) (sp : Sp) (E : XK) (k : Nat) (f : Addr) (fd : FuncData), X.N = (["thing", "part"] : List Str) → X.env.scope = d.scope → X.calm = true → X.mg "isinstance" = none → X.mg "list" = none → X.mg "tuple" = none → PassesOwn (model X.prog X.w) X.A X.env X.xe →
    FnOk X.prog X.w X.K X.mg X.base (L2.CX X.prog X.w) k f fd ["thing"] sp → Room k X.A → X.mg "_law_spoilt" = some (.ref f) → PySem.W.keepIn X.K (.ref f) = true → Binds X.K fd ["thing"] [] → (∀ σ, PassesAt (L2.CX X.prog X.w) X σ E) → PSs X d.body (Sp.t X.K sp E)
theorem spo_fn {P : Program} {w : World} {K : PySem.W.Frag} {mg : Str → Option Value} {base : Heap} {d : He.DefD} (T : SpoTx d) {x qual : Str} {f : Addr} {fd : FuncData} (F : FunD K x qual d.params d.body d.scope [] [] f fd) (hm : mg "_law_spoilt" = some (.ref f)) (hb : Binds K fd ["thing"] [])
    (h1 : mg "isinstance" = none) (h2 : mg "list" = none) (h3 : mg "tuple" = none) : ∀ n, FnOk P w K mg base (L2.CX P w) n f fd ["thing"] (spSp (spoG n)) := by
  have len : ∀ n vs H Q E, spSp (spoG n) vs H Q E → vs.length = ((["thing"] : List Str)).length := fun n vs H Q E ⟨v, d, fp, z, e, _⟩ => by rw [e]; rfl
  intro n
  induction n with
  | zero => exact ⟨len 0, fun A outer s H args us vs Q E _ _ _ _ ⟨v, d, fp, z, _, _, _, h, _⟩ => nomatch h⟩
  | succ n ih =>
    refine F.ok T.sc (len (n + 1)) fun cdv A outer s H vs Q E hr hsp => ?_
    obtain ⟨v, dd, fp, z, rfl, rd, nd, hz, hQ⟩ := hsp
    refine ⟨Sp.t K (spSp (spoG n)) E, T.run _ (spSp (spoG n)) E n f fd rfl rfl rfl h1 h2 h3 (passes_of rfl) ih hr hm F.kp hb (fun σ => passAt (W := fun cls d _ H => E cls d H) (takes_of rfl rfl rfl rfl) σ), ?_⟩
    have hok : okD n dd = true := by
      have hz : (if okD n dd then M.ret (Vl.dat PyData.none, Fr.all) else M.fail) = M.ret z := hz
      split at hz
      · assumption
      · cases hz
    cases n with
    | zero => exact Sp.step (p1 := fun _ => false) (fun v H Q ⟨d, fp, _, _, h, _⟩ => nomatch h) rd nd hok fun σ H' k d r => hQ H' k d r
    | succ m =>
      refine Sp.step (p1 := okD m) (fun v H Q ⟨d, fp, r, nd, h, q⟩ => ⟨v, d, fp, (.dat .none, .all), rfl, r, nd, ?_, q⟩) rd nd hok fun σ H' k d r => hQ H' k d r
      exact if_pos h
end DD
set_option Elab.async false
set_option linter.all false
set_option maxRecDepth 100000
set_option maxHeartbeats 4000000
/-! DW: the draw: what its text's reading does (the plain part). -/
namespace DD
open PySem PySem.Spec PyProof.Rows L2 RZ
namespace Dr
variable (K : PySem.W.Frag)
abbrev tS (i : Int) : TE := tOp (rIxL K) (tVar 0) (tC (.int i))
abbrev rPl : R2 := rI0 fun i j => .int (i + j)
abbrev rMo : R2 := rI (fun _ j => 0 < j) fun i j => .int (i % j)
abbrev rMu : R2 := rI CMul fun i j => .int (i * j)
abbrev rDi : R2 := rI CDiv fun i j => .int (i / j)
abbrev rPo : R2 := rI CPow fun i j => .int (i ^ j.toNat)
abbrev rInt1 : List V → Hp → VK → Prop := fun xs H Q => (∃ i, xs = [.int i] ∧ Q (.int i) H) ∨ ∃ k, xs = [.bl k] ∧ Q (.int (if k then 1 else 0)) H
abbrev rAb : List V → Hp → VK → Prop := fun xs H Q => ∃ i, xs = [.int i] ∧ Q (.int (if i < 0 then -i else i)) H
abbrev tI (te : TE) : TE := tCB rInt1 (tCons te tNil)
abbrev gS (k : Int) : TG := gSub (tVar 0) (tC (.int k)) rSetL
abbrev c (i : Int) : TE := tC (.int i)
def s1 : TS := tAsg (tOp rPl (tS K 2) (c 1)) (gS 2)
def cond : TT := L2.tAnd (tTest (tOp (rEqP K) (tS K 1) (c 0))) (tTest (tOp (rNeP K) (tS K 0) (L2.tLst tNil)))
def b1 : TS := tAsg (tCB rAb (tCons (tBM K "list" rPopAt (tS K 0) (tCons (c 0) tNil)) tNil)) (gName 2)
def b2 : TS := tAsg (tOp rMo (tI (tOp rPl (tOp rPl (tOp rMu (tS K 3) (c 8191)) (tVar 2)) (c 3))) (c 2147483647)) (gS 3)
def b3 : TS := tAsg (L2.tIf (tTest (tOp (rI0 fun i j => .bl (decide (j ≤ i))) (tVar 2) (tOp rPo (c 10) (c 18)))) (tVar 2) (c 0)) (gS 1)
def s2 : TS := tWhile (cond K) (tSeq (b1 K) (tSeq (b2 K) b3))
def d1 : TS := tAsg (tOp rMo (tI (tS K 1)) (tVar 1)) (gName 3)
def d2 : TS := tAsg (tOp rDi (tS K 1) (tVar 1)) (gS 1)
def s3 : TS := tIfS (tTest (tOp (rI0 fun i j => .bl (decide (j < i))) (tS K 1) (c 0))) (tSeq (d1 K) (tSeq (d2 K) (L2.tRet (tVar 3)))) tNext
def s4 : TS := tAsg (tOp rMo (tI (tOp rPo (tOp rPl (tOp rPl (tS K 3) (tOp rMu (c 7919) (tS K 2))) (c 104729)) (c 5))) (c 2147483629)) (gName 4)
def s5 : TS := L2.tRet (tOp rMo (tOp rMo (tI (tOp rPo (tOp rPl (tOp rPl (tOp rMu (tVar 4) (c 48271)) (tOp rMu (c 30011) (tS K 2))) (c 29)) (c 3))) (c 1000000007)) (tVar 1))
def t : TS := tSeq (s1 K) (tSeq (s2 K) (tSeq (s3 K) (tSeq (s4 K) (s5 K))))
/-- all but two cells stay -/
def ExtD (p q : Addr) (H H' : Hp) : Prop := (∀ a o, H a = some o → ¬ (a = p ∨ a = q) → H' a = some o) ∧ ∀ a, H' a = none → H a = none
theorem ExtD.refl {p q : Addr} {H : Hp} : ExtD p q H H := ⟨fun _ _ e _ => e, fun _ e => e⟩
theorem ExtD.trans {p q : Addr} {H H1 H2 : Hp} (h : ExtD p q H H1) (k : ExtD p q H1 H2) : ExtD p q H H2 := ⟨fun a o e n => k.1 a o (h.1 a o e n) n, fun a e => h.2 a (k.2 a e)⟩
theorem ExtD.new {p q a : Addr} {H : Hp} {o : HO} (h : H a = none) : ExtD p q H (upd H a o) := ⟨fun b u e _ => by rw [upd_ne (ne_of_none e h)]; exact e, fun b e => by
  by_cases z : b = a
  · subst z; exact h
  · rw [upd_ne z] at e; exact e⟩
theorem ExtD.st {p q : Addr} {H H' : Hp} {T : List (Addr × Str)} (h : ExtD p q H H') : ExtS (some (p, q, T)) H H' := ⟨fun a o e n _ => h.1 a o e fun c => n (c.elim .inl fun c => .inr (.inl c)), h.2⟩
theorem ExtD.tabs {p q : Addr} {H H' : Hp} {T : List (Addr × Str)} {us ws : List V} (h : ExtD p q H H') (hp : H p = some (.lst us)) (hq : H q = some (.lst ws)) (t : LamX.Tabs T H) : LamX.Tabs T H' := fun x hx => by
  have k : ∀ a o, H a = some o → (∀ us, o ≠ .lst us) → H' a = some o := fun a o e n => h.1 a o e fun c => by
    rcases c with rfl | rfl
    · rw [hp] at e; cases e; exact n _ rfl
    · rw [hq] at e; cases e; exact n _ rfl
  obtain ⟨ps, h1, h2, h3⟩ := t x hx
  refine ⟨ps, k _ _ h1 (fun _ c => by cases c), h2, fun pos cv hc => ?_⟩
  obtain ⟨c, e1, e2⟩ := h3 pos cv hc
  exact ⟨c, e1, k _ _ e2 (fun _ c => by cases c)⟩
/-- the draws' cells as they stand -/
structure DS (p q : Addr) (y : Int) (Hin : Hp) (ns : List Int) (x z : Int) (H : Hp) : Prop where
  ne : p ≠ q
  hp : H p = some (.lst [.ref q, .int x, .int y, .int z])
  hq : H q = some (.lst (ns.map V.int))
  hx : 0 ≤ x
  hz : 0 ≤ z
  hz2 : z < 2147483647
  ext : ExtD p q Hin H
variable {K : PySem.W.Frag} {p q : Addr} {y : Int} {Hin H : Hp} {ns : List Int} {x z : Int} {σ : L2.St}
theorem rd (h : H p = some (.lst vs)) (hσ : σ[0]? = some (some (.ref p))) {i : Int} {v : V} (e : atI vs i = some v) {Q : VK} (hQ : Q v H) : tS K i σ H Q :=
  ⟨_, hσ, p, vs, i, v, rfl, rfl, SqL.of h, e, hQ⟩
theorem st (h : H p = some (.lst vs)) (hσ : σ[0]? = some (some (.ref p))) {k : Int} {n : Nat} (e : ixN vs.length k = some n) {v : V} {Q : L2.St → Hp → Prop} (hQ : Q σ (upd H p (.lst (vs.set n v)))) : gS k v σ H Q :=
  ⟨_, hσ, p, vs, k, n, rfl, rfl, h, e, hQ⟩
theorem DS.put {x' y' z' : Int} (D : DS p q y Hin ns x z H) (h1 : 0 ≤ x') (h2 : 0 ≤ z') (h3 : z' < 2147483647) : DS p q y' Hin ns x' z' (upd H p (.lst [.ref q, .int x', .int y', .int z'])) :=
  ⟨D.ne, upd_same, by rw [upd_ne (Ne.symm D.ne)]; exact D.hq, h1, h2, h3, fun a o e n => by rw [upd_ne (fun c => n (.inl c))]; exact D.ext.1 a o e n, fun a e => by
    by_cases c : a = p
    · subst c; rw [upd_same] at e; cases e
    · rw [upd_ne c] at e; exact D.ext.2 a e⟩
theorem DS.new {T : Addr} {o : HO} (D : DS p q y Hin ns x z H) (n : H T = none) : DS p q y Hin ns x z (upd H T o) :=
  ⟨D.ne, by rw [upd_ne (ne_of_none D.hp n)]; exact D.hp, by rw [upd_ne (ne_of_none D.hq n)]; exact D.hq, D.hx, D.hz, D.hz2, D.ext.trans (.new n)⟩
theorem DS.pop {ns' : List Int} (D : DS p q y Hin ns x z H) : DS p q y Hin ns' x z (upd H q (.lst (ns'.map V.int))) :=
  ⟨D.ne, by rw [upd_ne D.ne]; exact D.hp, upd_same, D.hx, D.hz, D.hz2, fun a o e n => by rw [upd_ne (fun c => n (.inr c))]; exact D.ext.1 a o e n, fun a e => by
    by_cases c : a = q
    · subst c; rw [upd_same] at e; cases e
    · rw [upd_ne c] at e; exact D.ext.2 a e⟩
theorem ints_plain : ∀ ns : List Int, PyData.plainAll (ns.map PyData.int) = true
  | [] => rfl
  | n :: ns => by simp [PyData.plainAll, PyData.plain, ints_plain ns]
theorem ints_rd (H : Hp) : ∀ ns : List Int, RdL H (ns.map PyData.int) (ns.map V.int) []
  | [] => .nil
  | n :: ns => RdL.cons (Rd.int n) (ints_rd H ns)
/-- the digits' own part: nothing but the loop -/
theorem loop (D : DS p q y Hin ns x z H) {m : Int} {a b d : Option V} {Ends : L2.Ends}
    (hnx : ∀ ns' x' z' a' H', DS p q y Hin ns' x' z' H' → Ends.nx [some (.ref p), some (.int m), a', b, d] H') :
    s2 K Ends [some (.ref p), some (.int m), a, b, d] H := by
  refine ⟨fun k σ H => ∃ ns x z a, k = ns.length ∧ σ = [some (.ref p), some (.int m), a, b, d] ∧ DS p q y Hin ns x z H, ⟨_, ns, x, z, a, rfl, rfl, D⟩, ?_⟩
  rintro k σ H ⟨ns, x, z, a, rfl, rfl, D⟩
  have h0 : ([some (.ref p), some (.int m), a, b, d] : L2.St)[0]? = some (some (.ref p)) := rfl
  -- the test
  refine rd D.hp h0 (i := 1) rfl ⟨.int x, .int 0, .int x, .int 0, rfl, rfl, Nat.le_trans (Nat.min_le_right _ _) (by decide), ?_⟩
  refine ⟨_, rfl, ?_⟩
  by_cases hx0 : PyData.eqv (.int x) (.int 0) = true
  · dsimp only
    rw [if_pos hx0]
    refine rd D.hp h0 (i := 0) rfl ⟨by simp [sizeLine_eq], fun T hT => ?_⟩
    have D1 := D.new (o := .lst []) hT
    have hTq : T ≠ q := fun c => by subst c; rw [D.hq] at hT; cases hT
    refine ⟨.list (ns.map .int), .list [], Rd.dp (.lst D1.hq (ints_rd _ ns)) (by simpa [PyData.plain] using ints_plain ns), Rd.dp (.lst upd_same .nil) (by rfl), by simpa [PyData.plain] using ints_plain ns, rfl, Nat.le_trans (Nat.min_le_right _ _) (by decide), ?_⟩
    refine ⟨_, rfl, ?_⟩
    cases ns with
    | nil =>
      have : PyData.eqv (.list (([] : List Int).map .int)) (.list []) = true := by rfl
      rw [this]
      exact hnx _ _ _ _ _ D1
    | cons n ns =>
      have : PyData.eqv (.list ((n :: ns).map .int)) (.list []) = false := by rfl
      rw [this]
      refine ⟨fun σ H => ∃ x z a, σ = [some (.ref p), some (.int m), a, b, d] ∧ DS p q y Hin ns x z H, fun σ' H' ⟨x, z, a, e, D⟩ => ⟨ns.length, by simp, ns, x, z, a, rfl, e, D⟩, ?_⟩
      -- the body
      refine rd D1.hp h0 (i := 0) rfl ⟨ty_list D1.hq, q, V.int n :: ns.map V.int, 0, 0, .int n, rfl, rfl, D1.hq, by omega, by omega, by unfold seqIndex?; simp, rfl, ?_⟩
      refine ⟨n, rfl, ?_⟩
      have D2 : DS p q y Hin ns x z (upd (upd H T (.lst [])) q (.lst (ns.map V.int))) := D1.pop
      generalize hcell : (if n < 0 then -n else n) = cell
      have hc0 : 0 ≤ cell := by rw [← hcell]; split <;> omega
      show tSeq (b2 K) b3 _ [some (.ref p), some (.int m), some (.int cell), b, d] (upd (upd H T (.lst [])) q (.lst (ns.map V.int)))
      generalize upd (upd H T (.lst [])) q (.lst (ns.map V.int)) = H2 at D2
      have h0' : ([some (.ref p), some (.int m), some (.int cell), b, d] : L2.St)[0]? = some (some (.ref p)) := rfl
      refine rd D2.hp h0' (i := 3) rfl ⟨z, 8191, rfl, rfl, .inr ⟨by decide, by decide⟩, ?_⟩
      refine ⟨_, rfl, _, cell, rfl, rfl, ?_⟩
      refine ⟨_, 3, rfl, rfl, .inl ⟨_, rfl, ?_⟩⟩
      refine ⟨_, 2147483647, rfl, rfl, (show (0 : Int) < 2147483647 by decide), ?_⟩
      refine st D2.hp h0' (k := 3) (n := 3) rfl ?_
      have D3 : DS p q y Hin ns x ((z * 8191 + cell + 3) % 2147483647) (upd H2 p (.lst [.ref q, .int x, .int y, .int ((z * 8191 + cell + 3) % 2147483647)])) := D2.put D2.hx (Int.emod_nonneg _ (by decide)) (Int.emod_lt_of_pos _ (by decide))
      show b3 _ [some (.ref p), some (.int m), some (.int cell), b, d] (upd H2 p (.lst [.ref q, .int x, .int y, .int ((z * 8191 + cell + 3) % 2147483647)]))
      generalize upd H2 p (.lst [.ref q, .int x, .int y, .int ((z * 8191 + cell + 3) % 2147483647)]) = H3 at D3
      refine ⟨_, rfl, 10, 18, rfl, rfl, ⟨by decide, by decide, by decide⟩, ?_⟩
      refine ⟨cell, _, rfl, rfl, _, rfl, ?_⟩
      by_cases hge : (10 : Int) ^ (18 : Int).toNat ≤ cell
      · dsimp only
        rw [if_pos (by simpa using hge)]
        refine ⟨_, rfl, st D3.hp h0' (k := 1) (n := 1) rfl ?_⟩
        exact ⟨_, _, _, rfl, D3.put (y' := y) hc0 D3.hz D3.hz2⟩
      · dsimp only
        rw [if_neg (by simpa using hge)]
        unfold c tC
        refine st D3.hp h0' (k := 1) (n := 1) rfl ?_
        exact ⟨_, _, _, rfl, D3.put (y' := y) (x' := 0) (by decide) D3.hz D3.hz2⟩
  · dsimp only
    rw [if_neg hx0]
    rw [if_neg (by decide)]
    exact hnx _ _ _ _ _ D
/-- the draw -/
theorem draw_t {m : Int} (hm : 0 < m) (hm2 : m < 1073741824) (hne : p ≠ q) (hp : Hin p = some (.lst [.ref q, .int x, .int y, .int z])) (hq : Hin q = some (.lst (ns.map V.int))) (hx : 0 ≤ x) (hz : 0 ≤ z) (hz2 : z < 2147483647) (hy : 0 ≤ y) (hy2 : y < 1099511627776) {Q : VK} {nx : L2.St → Hp → Prop}
    (hQ : ∀ i ns' x' z' H', 0 ≤ i → i < m → DS p q (y + 1) Hin ns' x' z' H' → Q (.int i) H') : t K { nx := nx, rt := Q } [some (.ref p), some (.int m), none, none, none] Hin := by
  have D : DS p q y Hin ns x z Hin := ⟨hne, hp, hq, hx, hz, hz2, .refl⟩
  have h0 : ([some (.ref p), some (.int m), none, none, none] : L2.St)[0]? = some (some (.ref p)) := rfl
  refine rd D.hp h0 (i := 2) rfl ⟨y, 1, rfl, rfl, ?_⟩
  refine st D.hp h0 (k := 2) (n := 2) rfl ?_
  have D1 : DS p q (y + 1) Hin ns x z (upd Hin p (.lst [.ref q, .int x, .int (y + 1), .int z])) := D.put hx hz hz2
  show tSeq (s2 K) (tSeq (s3 K) (tSeq (s4 K) (s5 K))) _ _ (upd Hin p (.lst [.ref q, .int x, .int (y + 1), .int z]))
  refine loop D1 fun ns2 x2 z2 a H2 D2 => ?_
  have h0' : ([some (.ref p), some (.int m), a, none, none] : L2.St)[0]? = some (some (.ref p)) := rfl
  refine rd D2.hp h0' (i := 1) rfl ⟨x2, 0, rfl, rfl, _, rfl, ?_⟩
  by_cases hx2 : 0 < x2
  · dsimp only
    rw [if_pos (by simpa using hx2)]
    refine rd D2.hp h0' (i := 1) rfl (.inl ⟨x2, rfl, ?_⟩)
    refine ⟨_, rfl, x2, m, rfl, rfl, hm, ?_⟩
    have h0'' : ([some (.ref p), some (.int m), a, some (.int (x2 % m)), none] : L2.St)[0]? = some (some (.ref p)) := rfl
    refine rd D2.hp h0'' (i := 1) rfl ⟨_, rfl, x2, m, rfl, rfl, ⟨hm, hm2⟩, ?_⟩
    refine st D2.hp h0'' (k := 1) (n := 1) rfl ?_
    exact ⟨_, rfl, hQ _ _ _ _ _ (Int.emod_nonneg _ (by omega)) (Int.emod_lt_of_pos _ hm) (D2.put (y' := y + 1) (x' := x2 / m) (Int.ediv_nonneg D2.hx (by omega)) D2.hz D2.hz2)⟩
  · dsimp only
    rw [if_neg (by simpa using hx2)]
    have hz' := D2.hz
    have hz2' := D2.hz2
    have hk : (0 : Int) ≤ (z2 + 7919 * (y + 1) + 104729) ^ (5 : Int).toNat % 2147483629 := Int.emod_nonneg _ (by decide)
    have hk2 : (z2 + 7919 * (y + 1) + 104729) ^ (5 : Int).toNat % 2147483629 < 2147483629 := Int.emod_lt_of_pos _ (by decide)
    refine rd D2.hp h0' (i := 3) rfl ?_
    refine rd D2.hp h0' (i := 2) rfl ⟨7919, y + 1, rfl, rfl, .inl ⟨by decide, by decide⟩, ?_⟩
    refine ⟨z2, _, rfl, rfl, ?_⟩
    refine ⟨_, 104729, rfl, rfl, ?_⟩
    refine ⟨_, 5, rfl, rfl, ⟨by decide, by decide, by omega⟩, ?_⟩
    refine .inl ⟨_, rfl, ?_⟩
    refine ⟨_, 2147483629, rfl, rfl, (show (0 : Int) < 2147483629 by decide), ?_⟩
    show s5 K _ [some (.ref p), some (.int m), a, none, some (.int ((z2 + 7919 * (y + 1) + 104729) ^ (5 : Int).toNat % 2147483629))] H2
    generalize (z2 + 7919 * (y + 1) + 104729) ^ (5 : Int).toNat % 2147483629 = mx at hk hk2
    have h0'' : ([some (.ref p), some (.int m), a, none, some (.int mx)] : L2.St)[0]? = some (some (.ref p)) := rfl
    refine ⟨_, rfl, mx, 48271, rfl, rfl, .inr ⟨by decide, by decide⟩, ?_⟩
    refine rd D2.hp h0'' (i := 2) rfl ⟨30011, y + 1, rfl, rfl, .inl ⟨by decide, by decide⟩, ?_⟩
    refine ⟨_, _, rfl, rfl, ?_⟩
    refine ⟨_, 29, rfl, rfl, ?_⟩
    refine ⟨_, 3, rfl, rfl, ⟨by decide, by decide, by omega⟩, ?_⟩
    refine .inl ⟨_, rfl, ?_⟩
    refine ⟨_, 1000000007, rfl, rfl, (show (0 : Int) < 1000000007 by decide), ?_⟩
    refine ⟨_, rfl, _, m, rfl, rfl, hm, ?_⟩
    exact hQ _ _ _ _ _ (Int.emod_nonneg _ (by omega)) (Int.emod_lt_of_pos _ hm) D2
end Dr
end DD
set_option Elab.async false
set_option linter.all false
set_option maxRecDepth 100000
set_option maxHeartbeats 4000000
/-! DE2: draws, all defs by level, the law. -/
namespace DD
open PySem PySem.Spec PyProof.Rows L2 RZ
def drawM : List Vl → M (Vl × Fr)
  | [.strm, .dat (.int m)] => .draw m.toNat fun j => .ret (.dat (.int j), .all)
  | _ => .fail
def drawN : List Str := ["stream", "many", "cell", "digit", "mixed"]
/-- what is asked of the draw's text -/
structure DrawTx (d : He.DefD) : Prop where
  ps : psOf d.params = (["stream", "many"] : List Str)
  sc : FnScope drawN ["stream", "many"] d.scope
  run : ∀ X : Cx, X.N = drawN → X.env.scope = d.scope → X.calm = true → X.mg "abs" = none → X.mg "int" = none → PassesOwn (model X.prog X.w) X.A X.env X.xe → X.A.units + 200 < cLine → PSs X d.body (Dr.t X.K)
section
variable {XR : XRel} {P : Program} {w : World} {K : PySem.W.Frag} {mg : Str → Option Value} {base : Heap}
theorem draw_fn {d : He.DefD} (T : DrawTx d) {x qual : Str} {f : Addr} {fd : FuncData} {k : Nat} (F : FunD K x qual d.params d.body d.scope [] [] f fd) (h1 : mg "abs" = none) (h2 : mg "int" = none) :
    FnOk P w K mg base (L2.CX P w) (k + 1) f fd ["stream", "many"] (SpG XR 2 drawM) := by
  refine F.ok T.sc (fun vs H Q E h => h.1) fun cdv A outer s H vs Q E hr hsp => ?_
  refine ⟨Dr.t K, T.run _ rfl rfl rfl h1 h2 (passes_of rfl) (by
    have := hr.un
    show (A.deeper (envOfC qual d.scope s.heap.objs.size f cdv)).units + 200 < cLine
    omega), ?_⟩
  obtain ⟨hlen, A0, st, b, xs, fs, vr, ha, so, wp⟩ := hsp
  unfold drawM at wp
  split at wp
  · rename_i m
    cases vr with
    | cons v1 r1 =>
      cases r1 with
      | cons v2 r2 =>
        cases r2
        obtain ⟨rfl, p, q, TT, rfl, rfl⟩ := v1
        cases v2
        obtain ⟨⟨ne, ns, x, y, z, hp, hq, _, hx, _, hy, hyb, hz, hz2⟩, hTT⟩ := so
        obtain ⟨b', rfl, hm0, hm1, wp⟩ := wp
        have hm : 0 < m := by omega
        refine Dr.draw_t hm (by omega) ne hp hq hx hz hz2 hy (by omega) fun i ns' x' z' H' hi him D => ?_
        have wi := wp i.toNat (by omega)
        have hit : ((i.toNat : Nat) : Int) = i := Int.toNat_of_nonneg hi
        have wi : ∀ v H' fp, ExtS (some (p, q, TT)) H H' → StOk (some (p, q, TT)) b' H' → VR (some (p, q, TT)) H' (.dat (.int (i.toNat : Nat))) v fp → (∀ a ∈ fp, Own A0 H (some (p, q, TT)) a) → FrOk .all fp → (∀ a ∈ exs .all fp, H a = none) → Q v H' := wi
        refine wi (.int i) H' [] D.ext.st ⟨⟨D.ne, ns', x', y + 1, z', D.hp, D.hq, fun _ _ => trivial, D.hx, trivial, by omega, by omega, D.hz, D.hz2⟩, D.ext.tabs hp hq hTT⟩ ?_ (fun a h => nomatch h) List.nodup_nil fun a h => nomatch h
        rw [hit]
        exact Rd.int i
  · exact (show False from wp).elim
end
/-! ### all defs -/
def tabOf (fn : List He.DefD) : Tab := (fn.zipIdx.filter fun p => p.1.name != ("_law_spoilt" : Str)).map fun p => (p.1.name, p.2, psOf p.1.params)
def gam (XR : XRel) (fn : List He.DefD) (idr : Nat) (spo : Option Nat) : Nat → FEnv
  | 0 => fun _ _ => .fail
  | n + 1 => fun i xs => if i = idr then drawM xs else if spo = some i then spoG (n + 1) xs else match fn[i]? with
    | none => .fail
    | some d => if scB (namesOf d.params d.body d.scope) (psOf d.params) d.scope && plainP d.params then semD XR (tabOf fn) spo d.params d.body d.scope (gam XR fn idr spo n) xs else .fail
theorem tab_get {fn : List He.DefD} {x : Str} {i : Nat} {ps : List Str} (h : (tabOf fn).lookup x = some (i, ps)) : ∃ d, fn[i]? = some d ∧ d.name = x ∧ ps = psOf d.params ∧ d.name ≠ ("_law_spoilt" : Str) := by
  unfold tabOf at h
  have key : ∀ (l : List (He.DefD × Nat)), (l.map fun p => (p.1.name, p.2, psOf p.1.params)).lookup x = some (i, ps) → ∃ p ∈ l, p.1.name = x ∧ p.2 = i ∧ psOf p.1.params = ps := fun l => by
    induction l with
    | nil => intro h; simp at h
    | cons p l ih =>
      intro h
      rw [List.map_cons, List.lookup_cons] at h
      split at h
      · rename_i e
        cases h
        exact ⟨p, List.mem_cons_self, (by simpa using e : x = p.1.name).symm, rfl, rfl⟩
      · obtain ⟨p', h1, h2⟩ := ih h
        exact ⟨p', List.mem_cons_of_mem _ h1, h2⟩
  obtain ⟨⟨d, j⟩, h1, h2, h3, h4⟩ := key _ h
  obtain ⟨h1, h5⟩ := List.mem_filter.mp h1
  refine ⟨d, ?_, h2, h4.symm, by simpa using h5⟩
  have h3 : j = i := h3
  subst h3
  simpa using (List.mem_zipIdx_iff_getElem?.mp h1)
theorem plainP_eq {p : Arguments} (h : plainP p = true) : p = ⟨[], p.args, none, [], [], none, []⟩ := by
  unfold plainP at h
  simp only [Bool.and_eq_true, List.isEmpty_iff, Option.isNone_iff_eq_none] at h
  obtain ⟨⟨⟨⟨⟨h1, h2⟩, h3⟩, h4⟩, h5⟩, h6⟩ := h
  cases p
  simp_all
/-- the facts of a head over these defs -/
structure Facts (fn : List He.DefD) (K : PySem.W.Frag) (mg : Str → Option Value) : Prop where
  def_ : ∀ d ∈ fn, ∃ f fd, FunD K d.name d.qual d.params d.body d.scope [] [] f fd ∧ mg d.name = some (.ref f)
  blt : ∀ x, bltNames.contains x = true → mg x = none
theorem bindR_of {K : PySem.W.Frag} {x qual : Str} {p : Arguments} {body : List Stmt} {scope : Scope} {f : Addr} {fd : FuncData} (F : FunD K x qual ⟨[], p.args, none, [], [], none, []⟩ body scope [] [] f fd) (nd : (psOf p).Nodup) : BindR K fd (psOf p) := FunD.bindR F nd
section
variable {XR : XRel} {P : Program} {w : World} {K : PySem.W.Frag} {mg : Str → Option Value} {base : Heap} {fn : List He.DefD} {idr : Nat} {spo : Option Nat} {dd : He.DefD}
theorem lvl (Fa : Facts fn K mg) (hdr : fn[idr]? = some dd) (T : DrawTx dd) (hsp : ∀ j, spo = some j → j ≠ idr ∧ ∃ d, fn[j]? = some d ∧ d.name = ("_law_spoilt" : Str) ∧ SpoTx d) (hps : ∀ d ∈ fn, plainP d.params = true ∧ (psOf d.params).Nodup) : ∀ n, Lvl XR P w K mg base (tabOf fn) spo n (gam XR fn idr spo n) := by
  have spo_all : ∀ n, (∀ j, spo = some j → gam XR fn idr spo n j = spoG n) → ∀ j, spo = some j → ∃ f fd, FnOk P w K mg base (L2.CX P w) n f fd ["thing"] (spSp (gam XR fn idr spo n j)) ∧ mg "_law_spoilt" = some (.ref f) ∧ PySem.W.keepIn K (.ref f) = true ∧ Binds K fd ["thing"] [] := fun n hg j hj => by
    obtain ⟨_, d, hd, hnm, Ts⟩ := hsp j hj
    obtain ⟨f, fd, F, hm⟩ := Fa.def_ d (List.mem_of_getElem? hd)
    obtain ⟨hp1, hp2⟩ := hps d (List.mem_of_getElem? hd)
    have F' := F
    rw [plainP_eq hp1] at F'
    have hb := F'.bindsN (ps := psOf d.params) (fun kV doc pm an cdv ct us hl => bind_plain hp2 kV doc pm an cdv ct us hl)
    rw [Ts.ps] at hb
    rw [hnm] at hm
    rw [hg j hj]
    exact ⟨f, fd, spo_fn Ts F hm hb (Fa.blt _ (by decide +kernel)) (Fa.blt _ (by decide +kernel)) (Fa.blt _ (by decide +kernel)) n, hm, F.kp, hb⟩
  intro n
  induction n with
  | zero =>
    refine ⟨fun x i ps h => ?_, spo_all 0 (fun _ _ => rfl), Fa.blt⟩
    obtain ⟨d, hd, rfl, rfl, hnsp⟩ := tab_get h
    obtain ⟨f, fd, F, hm⟩ := Fa.def_ d (List.mem_of_getElem? hd)
    obtain ⟨hp1, hp2⟩ := hps d (List.mem_of_getElem? hd)
    rw [plainP_eq hp1] at F
    exact ⟨f, fd, fn_fail fun _ => rfl, hm, F.kp, F.bindsN (ps := psOf d.params) (fun kV doc pm an cdv ct us hl => bind_plain hp2 kV doc pm an cdv ct us hl), fun _ _ => rfl, bindR_of F hp2⟩
  | succ n ih =>
    refine ⟨fun x i ps h => ?_, spo_all (n + 1) fun j hj => ?_, Fa.blt⟩
    rotate_left
    · funext xs
      show (if j = idr then drawM xs else if spo = some j then spoG (n + 1) xs else _) = _
      rw [if_neg (hsp j hj).1, if_pos hj]
    obtain ⟨d, hd, rfl, rfl, hnsp⟩ := tab_get h
    obtain ⟨f, fd, F, hm⟩ := Fa.def_ d (List.mem_of_getElem? hd)
    obtain ⟨hp1, hp2⟩ := hps d (List.mem_of_getElem? hd)
    have F' := F
    rw [plainP_eq hp1] at F'
    refine ⟨f, fd, ?_, hm, F.kp, F'.bindsN (ps := psOf d.params) (fun kV doc pm an cdv ct us hl => bind_plain hp2 kV doc pm an cdv ct us hl), fun xs hl => ?_, bindR_of F' hp2⟩
    · by_cases hi : i = idr
      · subst hi
        rw [hdr] at hd
        cases hd
        have : (gam XR fn i spo (n + 1) i : List Vl → M (Vl × Fr)) = drawM := by funext xs; exact if_pos rfl
        rw [this, T.ps]
        exact draw_fn T F (Fa.blt _ (by decide +kernel)) (Fa.blt _ (by decide +kernel))
      · have hsi : ¬ spo = some i := fun e => by
          obtain ⟨_, d', hd', hn', _⟩ := hsp i e
          rw [hd] at hd'
          cases hd'
          exact hnsp hn'
        by_cases hok : scB (namesOf d.params d.body d.scope) (psOf d.params) d.scope && plainP d.params
        · have : (gam XR fn idr spo (n + 1) i : List Vl → M (Vl × Fr)) = semD XR (tabOf fn) spo d.params d.body d.scope (gam XR fn idr spo n) := by
            funext xs
            show (if i = idr then drawM xs else if spo = some i then spoG (n + 1) xs else _) = _
            rw [if_neg hi, if_neg hsi, hd]
            exact if_pos hok
          rw [this]
          exact fn_sem ih F (by simp only [Bool.and_eq_true] at hok; exact hok.1)
        · refine fn_fail fun xs => ?_
          show (if i = idr then drawM xs else if spo = some i then spoG (n + 1) xs else _) = _
          rw [if_neg hi, if_neg hsi, hd]
          exact if_neg hok
    · show (if i = idr then drawM xs else if spo = some i then spoG (n + 1) xs else _) = _
      by_cases hi : i = idr
      · subst hi
        rw [hdr] at hd
        cases hd
        rw [if_pos rfl]
        rw [T.ps] at hl
        unfold drawM
        split
        · exact absurd rfl hl
        · rfl
      · have hsi : ¬ spo = some i := fun e => by
          obtain ⟨_, d', hd', hn', _⟩ := hsp i e
          rw [hd] at hd'
          cases hd'
          exact hnsp hn'
        rw [if_neg hi, if_neg hsi, hd]
        show (if _ then semD XR (tabOf fn) spo d.params d.body d.scope (gam XR fn idr spo n) xs else _) = _
        split
        · exact if_neg hl
        · rfl
end
/-! ### the law -/
def rListOf' (K : PySem.W.Frag) : List V → Hp → VK → Prop := fun xs H Q => ∃ p ys, xs = [.ref p] ∧ (SqL K H p ys ∨ SqT K H p ys) ∧ ∀ l, H l = none → Q (.ref l) (upd H l (.lst ys))
def strmT (K : PySem.W.Frag) : TS := L2.tRet (L2.tLst (tCons (tCB (rListOf' K) (tCons (tVar 0) tNil)) (tCons (tC (.int 0)) (tCons (tC (.int 0)) (tCons (tC (.int 17)) tNil)))))
structure StrmTx (d : He.DefD) : Prop where
  ps : psOf d.params = (["script"] : List Str)
  sc : FnScope ["script"] ["script"] d.scope
  run : ∀ X : Cx, X.N = (["script"] : List Str) → X.env.scope = d.scope → X.calm = true → X.mg "list" = none → PSs X d.body (strmT X.K)
def spStrm (K : PySem.W.Frag) : Sp := fun vs H Q _ => ∃ (a : Addr) (ns : List Int), vs = [.ref a] ∧ SqL K H a (ns.map V.int) ∧ ∀ p q, H q = none → H p = none → p ≠ q → Q (.ref p) (upd (upd H q (.lst (ns.map V.int))) p (.lst [.ref q, .int 0, .int 0, .int 17]))
theorem strm_fn {P : Program} {w : World} {K : PySem.W.Frag} {mg : Str → Option Value} {base : Heap} {d : He.DefD} (T : StrmTx d) {x qual : Str} {f : Addr} {fd : FuncData} {k : Nat} (F : FunD K x qual d.params d.body d.scope [] [] f fd) (h1 : mg "list" = none) :
    FnOk P w K mg base (L2.CX P w) (k + 1) f fd ["script"] (spStrm K) := by
  refine F.ok T.sc (fun vs H Q E ⟨a, ns, e, _⟩ => by rw [e]; rfl) fun cdv A outer s H vs Q E hr hsp => ?_
  refine ⟨strmT K, T.run _ rfl rfl rfl h1, ?_⟩
  obtain ⟨a, ns, rfl, hS, hQ⟩ := hsp
  refine ⟨.ref a, rfl, a, _, rfl, .inl hS, fun q hq => ?_⟩
  refine ⟨by simp [sizeLine_eq], fun p hp => ?_⟩
  have hpq : p ≠ q := fun c => by subst c; rw [upd_same] at hp; cases hp
  rw [upd_ne hpq] at hp
  exact hQ p q hq hp hpq
/-- the law's text: its first statement makes the stream -/
structure LawTx (fn : List He.DefD) (dl : He.DefD) (rest : List Stmt) : Prop where
  ps : psOf dl.params = (["script"] : List Str)
  pl : plainP dl.params = true
  sc : scB (namesOf dl.params dl.body dl.scope) (psOf dl.params) dl.scope = true
  body : ∃ p1 p2 p3 p4 p5 : Pos, dl.body = .Assign [.Name "stream" p1] (.Call (.Name "_law_stream" p2) [.Name "script" p3] [] p4) p5 :: rest
  i0 : (namesOf dl.params dl.body dl.scope).idxOf ("script" : Str) = 0
  i1 : (namesOf dl.params dl.body dl.scope).idxOf ("stream" : Str) < (namesOf dl.params dl.body dl.scope).length ∧ (namesOf dl.params dl.body dl.scope).idxOf ("stream" : Str) ≠ 0
  l0 : visB dl.scope "script" = true
  l1 : dl.scope.names.lookup ("stream" : Str) = some .local ∨ dl.scope.names.lookup ("stream" : Str) = some .cell
  g : dl.scope.names.lookup ("_law_stream" : Str) = some .globalImplicit
/-- the slots behind the first statement -/
def lawSt (dl : He.DefD) : SD := (List.replicate (namesOf dl.params dl.body dl.scope).length none).set ((namesOf dl.params dl.body dl.scope).idxOf ("stream" : Str)) (some ⟨.strm, .no⟩)
def lawM (XR : XRel) (fn : List He.DefD) (idr : Nat) (spo : Option Nat) (n : Nat) (dl : He.DefD) (rest : List Stmt) : M Out := ((comp XR cfuel).B (ctxOf (tabOf fn) spo dl.params dl.body dl.scope) rest).1 (gam XR fn idr spo n) (lawSt dl)
def spLaw (K : PySem.W.Frag) (T : List (Addr × Str)) : Sp := fun vs H Q _ => ∃ (a : Addr) (ns : List Int), vs = [.ref a] ∧ SqL K H a (ns.map V.int) ∧ LamX.Tabs T H ∧ ∀ H', Q (.bl true) H'
theorem law_fn {XR : XRel} {T0 : List (Addr × Str)} {P : Program} {w : World} {K : PySem.W.Frag} {mg : Str → Option Value} {base : Heap} {fn : List He.DefD} {idr : Nat} {spo : Option Nat} {dd ds dl : He.DefD} {rest : List Stmt} {n : Nat} (Fa : Facts fn K mg) (hdr : fn[idr]? = some dd) (T : DrawTx dd) (hsp : ∀ j, spo = some j → j ≠ idr ∧ ∃ d, fn[j]? = some d ∧ d.name = ("_law_spoilt" : Str) ∧ SpoTx d) (hps : ∀ d ∈ fn, plainP d.params = true ∧ (psOf d.params).Nodup)
    (hds : ds ∈ fn) (hdn : ds.name = "_law_stream") (Ts : StrmTx ds) (hdl : dl ∈ fn) (Tl : LawTx fn dl rest) (hn : 0 < n)
    (h : wpB 1099511627776 (lawM XR fn idr spo n dl rest) (fun _ o => ∃ f σ, o = .rt (.dat (.bool true)) f σ) (fun _ _ => False)) {f : Addr} {fd : FuncData} (F : FunD K dl.name dl.qual dl.params dl.body dl.scope [] [] f fd) :
    FnOk P w K mg base (L2.CX P w) (n + 1) f fd ["script"] (spLaw K T0) := by
  have S := scB_ok Tl.sc
  rw [Tl.ps] at S
  refine F.ok S (fun vs H Q E ⟨a, ns, e, _⟩ => by rw [e]; rfl) fun cdv A outer s H vs Q E hr hsp => ?_
  obtain ⟨a, ns, rfl, hS, hT0, hQ⟩ := hsp
  have L := lvl (XR := XR) (P := P) (w := w) (base := base) Fa hdr T hsp hps n
  have O := okC_def (E := E) (H := H) (outer := outer) L Tl.sc hr
  obtain ⟨fs, fds, Fs, hms⟩ := Fa.def_ ds hds
  obtain ⟨hp1, hp2⟩ := hps ds hds
  have Fs' := Fs
  rw [plainP_eq hp1] at Fs'
  have bS : Binds K fds ["script"] [] := by
    have := Fs'.bindsN (ps := psOf ds.params) (fun kV doc pm an cdv ct us hl => bind_plain hp2 kV doc pm an cdv ct us hl)
    rw [Ts.ps] at this
    exact this
  have GS : FnOk P w K mg base (L2.CX P w) n fs fds ["script"] (spStrm K) := by
    obtain ⟨m, rfl⟩ : ∃ m, n = m + 1 := ⟨n - 1, by omega⟩
    exact strm_fn Ts Fs (Fa.blt _ (by decide +kernel))
  obtain ⟨p1, p2, p3, p4, p5, hb⟩ := Tl.body
  let N := namesOf dl.params dl.body dl.scope
  have e0 : N[0]? = some ("script" : Str) := by
    have h0 : 0 < N.length := Nat.lt_of_le_of_lt (Nat.zero_le _) Tl.i1.1
    have hi : N.idxOf ("script" : Str) < N.length := by rw [Tl.i0]; exact h0
    have e := List.getElem_idxOf hi
    rw [List.getElem?_eq_getElem h0]
    simp only [show N.idxOf ("script" : Str) = 0 from Tl.i0] at e
    rw [e]
  have e1 : N[N.idxOf ("stream" : Str)]? = some ("stream" : Str) := by
    rw [List.getElem?_eq_getElem Tl.i1.1, List.getElem_idxOf Tl.i1.1]
  refine ⟨tSeq (tAsg (tCallSD (spStrm K) [] (fun _ cls d H' => E cls d H') (tCons (tVar 0) tNil)) (gName (N.idxOf ("stream" : Str)))) (TSv XR (fun cls d _ H => E cls d H) (gam XR fn idr spo n) ((comp XR cfuel).B (ctxOf (tabOf fn) spo dl.params dl.body dl.scope) rest).1), ?_, ?_⟩
  · have key : PSs (cxOf (L2.CX P w) P w K mg base (namesOf dl.params dl.body dl.scope) dl.qual dl.scope f cdv A outer s H E) (.Assign [.Name "stream" p1] (.Call (.Name "_law_stream" p2) [.Name "script" p3] [] p4) p5 :: rest) (tSeq (tAsg (tCallSD (spStrm K) [] (fun _ cls d H' => E cls d H') (tCons (tVar 0) tNil)) (gName (N.idxOf ("stream" : Str)))) (TSv XR (fun cls d _ H => E cls d H) (gam XR fn idr spo n) ((comp XR cfuel).B (ctxOf (tabOf fn) spo dl.params dl.body dl.scope) rest).1)) := by
      refine pss_cons (ps_set (i := N.idxOf ("stream" : Str)) S.nd e1 Tl.l1 (pe_callSD GS hr Tl.g (hdn ▸ hms) Fs.kp bS .nil (fun σ => passAt O.takes σ) (pa_cons (pe_var e0 (vis_of O Tl.l0) (by decide +kernel) (by decide +kernel)) pa_nil rfl) (by decide +kernel) rfl rfl) rfl (.inl rfl)) ?_
      exact ((comp XR cfuel).B (ctxOf (tabOf fn) spo dl.params dl.body dl.scope) rest).2 _ _ _ O
    rw [← hb] at key
    exact key
  · have hNl : 0 < N.length := Nat.lt_of_le_of_lt (Nat.zero_le _) Tl.i1.1
    refine ⟨.ref a, rfl, a, ns, rfl, hS, fun p q hq hp hpq => ?_⟩
    let H1 : Hp := upd (upd H q (.lst (ns.map V.int))) p (.lst [.ref q, .int 0, .int 0, .int 17])
    have hH1p : H1 p = some (.lst [.ref q, .int 0, .int 0, .int 17]) := upd_same
    have hH1q : H1 q = some (.lst (ns.map V.int)) := by show upd _ _ _ q = _; rw [upd_ne (Ne.symm hpq)]; exact upd_same
    have hT1 : LamX.Tabs T0 H1 := hT0.ext fun b o e => by
      show upd (upd H q _) p _ b = some o
      rw [upd_ne (ne_of_none e hp), upd_ne (ne_of_none e hq)]
      exact e
    have hl0 : (L2.start N [V.ref a]).length = N.length := by unfold L2.start; simp; omega
    refine ⟨⟨fun _ => False, H1, some (p, q, T0), lawSt dl, fun _ => [], (L2.start N [V.ref a]).set (N.idxOf ("stream" : Str)) (some (.ref p))⟩, 1099511627776, rfl, ?_, wpB_mono (fun b' o z => ?_) (fun _ _ z => z.elim) _ _ h⟩
    · have key : ∀ {i : Nat} {s : Sl}, (lawSt dl)[i]? = some (some s) → i = N.idxOf ("stream" : Str) ∧ s = ⟨.strm, .no⟩ := fun {i s} e => by
        unfold lawSt at e
        rcases set_key e with ⟨h1, h2⟩ | ⟨h1, h2⟩
        · exact ⟨h1, h2⟩
        · rw [List.getElem?_replicate] at h2
          split at h2 <;> cases h2
      refine ⟨?_, .refl, ⟨⟨hpq, ns, 0, 0, 17, hH1p, hH1q, fun _ _ => trivial, by decide, trivial, by decide, by decide, by decide, by decide⟩, hT1⟩, fun i s e => ?_, (fun i s e a ha => nomatch ha), fun i s e => ?_⟩
      · rw [List.length_set, hl0]; unfold lawSt; rw [List.length_set, List.length_replicate]
      · obtain ⟨rfl, rfl⟩ := key e
        refine ⟨.ref p, List.getElem?_set_self (by rw [hl0]; exact Tl.i1.1), rfl, p, q, T0, rfl, rfl⟩
      · obtain ⟨rfl, rfl⟩ := key e
        exact ⟨trivial, fun a ha => nomatch ha⟩
    · obtain ⟨f, σ, rfl⟩ := z
      intro fps σ' v H' fp I vr _ _ _ _
      cases (show Rd H' (.bool true) v fp from vr)
      exact hQ H'
end DD
set_option Elab.async false
set_option linter.all false
set_option maxRecDepth 100000
set_option maxHeartbeats 2000000
/-! DE3: the end over a head, the exceptions' relation by the world. -/
namespace DD
open PySem PySem.Spec PyProof.Rows L2
theorem walk_ofW {l : PySem.W.OpenLaw} {n k : Nat} {q : Program} {loose : List Str} {XP : (Str → Option Value) → Heap → Prop} {YP : World → Heap → Prop} {d : DefRec} {CX : World → CXT} {x : Str}
    (hn : l.most = some n) (hn2 : n ≤ sizeLine) (hdf : d.params.defaults = []) (hr : Room k callerA)
    (F : ∀ (w : World) (mg : Str → Option Value) (fa : Addr) (h : Heap), YP w h → h.Ns mainGlobals mg → mg d.name = some (.ref fa) →
      ∃ (K : PySem.W.Frag) (fd : FuncData) (sp : Sp), K.In h ∧ (∀ (s : Shared) (u : Value), BindsTo s fd ⟨[u], []⟩ [(x, u)]) ∧
        (∀ (H : Hp) (a : Addr) (ns : List Int), ns.length ≤ n → Only H → SqL K H a (ns.map V.int) → sp [.ref a] H (fun v _ => v = .bl true) fun _ _ _ => False) ∧
        ∀ base : Heap, K.In base → base.Ns mainGlobals mg → FnOk l.prog w K mg base (CX w) k fa fd [x] sp)
    (hCX : ∀ (w : World) (H : Hp) (s : Shared) (e : Value) (s' : Shared), CX w [] H s (fun _ _ _ => False) e s' → False) :
    PySem.W.WalkO q loose XP YP l.row.toRowW d [] (fun f vs => PySem.call f vs) := by
  refine Att.attach_call hn hdf fun w s₀ s₁ mg mb fa o pm cd doc a vs ns G Y ho hd hcd hmg hobj hints hlen hg => ?_
  obtain ⟨K, fd, sp, KX, hb, hsp, hF⟩ := F w mg fa _ Y G.T.g hmg
  exact law_call KX G.T.g G.T.b G.T.builtins G.T.nolimit hg hobj hints (Nat.le_trans hlen hn2) hr hF hb (fun H hO hS => hsp H a ns hlen hO hS) fun H e s' => hCX w H s₁ e s'
theorem cx_no {P : Program} {w : World} {o : List Env} {H : Hp} {s s' : Shared} {e : Value} (h : L2.CX P w o H s (fun _ _ _ => False) e s') : False := by
  obtain ⟨_, _, _, _, _, _, _, _, _, _, _, _, hE⟩ := h
  exact hE
end DD
set_option Elab.async false
set_option linter.all false
set_option maxRecDepth 100000
set_option maxHeartbeats 4000000
/-! P0: plain reckoning with meanings. -/
namespace DD
open PySem
def startN (nl : Nat) (xs : List Vl) : SD := xs.map (fun x => some ⟨x, .no⟩) ++ List.replicate (nl - xs.length) none
/-- a def's meaning from its body's -/
def callS (S : SemS) (np nl : Nat) (Γ : FEnv) (xs : List Vl) : M (Vl × Fr) := if xs.length = np then S Γ (startN nl xs) >>= retO else .fail
/-- at most c draws, then Q -/
@[irreducible] def Wp {α : Type} (c : Nat) (m : M α) (Q : α → Prop) : Prop := ∀ b, c ≤ b → wpB b m (fun b' a => b ≤ b' + c ∧ Q a) (fun _ _ => False)
theorem Wp.mk {α : Type} {c : Nat} {m : M α} {Q : α → Prop} (h : ∀ b, c ≤ b → wpB b m (fun b' a => b ≤ b' + c ∧ Q a) (fun _ _ => False)) : Wp c m Q := by unfold Wp; exact h
theorem Wp.of {α : Type} {c : Nat} {m : M α} {Q : α → Prop} (h : Wp c m Q) : ∀ b, c ≤ b → wpB b m (fun b' a => b ≤ b' + c ∧ Q a) (fun _ _ => False) := by unfold Wp at h; exact h
theorem Wp.ret {α : Type} {a : α} {Q : α → Prop} (h : Q a) : Wp 0 (.ret a) Q := .mk fun b _ => ⟨Nat.le_refl _, h⟩
theorem Wp.bind {α β : Type} {c1 c2 : Nat} {m : M α} {f : α → M β} {Q1 : α → Prop} {Q : β → Prop} (h : Wp c1 m Q1) (k : ∀ a, Q1 a → Wp c2 (f a) Q) : Wp (c1 + c2) (m >>= f) Q := .mk fun b hb => by
  refine (wpB_bind _ _).mpr (wpB_mono (fun b' a z => ?_) (fun _ _ z => z) _ _ (h.of b (by omega)))
  exact wpB_mono (fun b'' a' z' => ⟨by omega, z'.2⟩) (fun _ _ z => z) _ _ ((k a z.2).of b' (by omega))
theorem Wp.mono {α : Type} {c c' : Nat} {m : M α} {Q Q' : α → Prop} (h : Wp c m Q) (hc : c ≤ c') (hq : ∀ a, Q a → Q' a) : Wp c' m Q' := .mk fun b hb => wpB_mono (fun b' a z => ⟨by omega, hq a z.2⟩) (fun _ _ z => z) _ _ (h.of b (by omega))
theorem Wp.draw {α : Type} {c n : Nat} {k : Nat → M α} {Q : α → Prop} (h0 : 0 < n) (h1 : n < 1000000) (h : ∀ i, i < n → Wp c (k i) Q) : Wp (c + 1) (.draw n k) Q := .mk fun b hb => by
  refine ⟨b - 1, by omega, h0, h1, fun i hi => wpB_mono (fun b' a z => ⟨by omega, z.2⟩) (fun _ _ z => z) _ _ ((h i hi).of (b - 1) (by omega))⟩
theorem Wp.eq {α : Type} {m m' : M α} {c : Nat} {Q : α → Prop} (e : m = m') (h : Wp c m' Q) : Wp c m Q := e ▸ h
end DD
set_option Elab.async false
set_option linter.all false
set_option maxRecDepth 100000
set_option maxHeartbeats 4000000
/-! P1: plain lemmas on meanings. -/
namespace DD
open PySem
/-- a list or a tuple of these -/
def Sq (d : PyData) (xs : List PyData) : Prop := d = .list xs ∨ d = .tuple xs
def isL : PyData → Bool
  | .list _ => true
  | .tuple _ => true
  | _ => false
@[simp] theorem finV_dat (d : PyData) (t : List Nat) (f : Fr) : finV (.dat d) t f = fin d t f := rfl
@[simp] theorem fin_v (d : PyData) (t : List Nat) (f : Fr) : (fin d t f).v = .dat d := by
  unfold fin
  split
  · rfl
  · split <;> rfl
theorem fin_all (d : PyData) (t : List Nat) : fin d t .all = ⟨.dat d, [], .all⟩ := by
  unfold fin
  split <;> rfl
theorem fin_pur {d : PyData} (h : pur d = true) (t : List Nat) (f : Fr) : fin d t f = rP d := by
  unfold fin
  rw [if_pos h]
@[simp] theorem fin_int (i : Int) (t : List Nat) (f : Fr) : fin (.int i) t f = rP (.int i) := fin_pur rfl t f
@[simp] theorem fin_bool (b : Bool) (t : List Nat) (f : Fr) : fin (.bool b) t f = rP (.bool b) := fin_pur rfl t f
@[simp] theorem fin_none (t : List Nat) (f : Fr) : fin .none t f = rP .none := fin_pur rfl t f
@[simp] theorem fin_str (s : Str) (t : List Nat) (f : Fr) : fin (.str s) t f = rP (.str s) := fin_pur rfl t f
theorem eVar_at {Γ : FEnv} {σ : SD} {i : Nat} {s : Sl} (h : σ[i]? = some (some s)) : eVar i Γ σ = .ret (finV s.v (if s.m = .no then [] else [i]) .no) := by
  unfold eVar
  rw [h]
theorem call_eq {S : SemS} {np nl : Nat} {Γ : FEnv} {xs : List Vl} (hl : xs.length = np) : callS S np nl Γ xs = S Γ (startN nl xs) >>= retO := if_pos hl
/-- a def whose text is one return -/
theorem call_ret {e : SemE} {np nl : Nat} {Γ : FEnv} {xs : List Vl} {r : R} (hl : xs.length = np) (h : e Γ (startN nl xs) = .ret r) : callS (sSeq (sRet e) sNil) np nl Γ xs = .ret (r.v, r.f) := by
  unfold callS
  rw [if_pos hl]
  unfold sSeq sRet
  rw [h]
  rfl
/-! comprehensions -/
theorem lcGo_map {g : SemG} {t : SemT} {e : SemE} {Γ : FEnv} {σ : SD} {p : PyData → Bool} {F : PyData → R} : ∀ {items : List PyData}, (∀ x ∈ items, ∃ σ1, g x σ = .ret σ1 ∧ t Γ σ1 = .ret (p x) ∧ (p x = true → e Γ σ1 = .ret (F x))) → lcGo g t e Γ σ items = .ret ((items.filter p).map F)
  | [], _ => rfl
  | x :: xs, h => by
    obtain ⟨σ1, h1, h2, h3⟩ := h x List.mem_cons_self
    have ih := lcGo_map (items := xs) fun y hy => h y (List.mem_cons_of_mem _ hy)
    unfold lcGo
    rw [h1, bind_ret, h2, bind_ret]
    cases hp : p x with
    | true => rw [if_pos rfl, h3 hp, bind_ret, ih, bind_ret, List.filter_cons_of_pos hp]; rfl
    | false => rw [if_neg (by simp), ih, List.filter_cons_of_neg (by simp [hp])]
theorem datas_map {F : PyData → R} {f : PyData → PyData} (h : ∀ x, (F x).v = .dat (f x)) : ∀ xs : List PyData, datas (xs.map F) = some (xs.map f)
  | [] => rfl
  | x :: xs => by
    show (match (F x).v with
      | .dat d => (datas (xs.map F)).map (d :: ·)
      | _ => none) = _
    rw [h x, datas_map h xs]
    rfl
/-- a comprehension that draws nothing and whose values hold no cell -/
theorem eLc_pure {own : List Nat} {i : SemI} {g : SemG} {t : SemT} {e : SemE} {Γ : FEnv} {σ : SD} {items : List PyData} {ct : List Nat} {p : PyData → Bool} {f : PyData → PyData} (hi : i Γ σ = .ret (items, ct)) (hl : items.length ≤ 16777216)
    (h : ∀ x ∈ items, ∃ σ1, g x (wipeD (demote ct σ) own) = .ret σ1 ∧ t Γ σ1 = .ret (p x) ∧ (p x = true → e Γ σ1 = .ret (rP (f x)))) : eLc own i g t e Γ σ = .ret ⟨.dat (.list ((items.filter p).map f)), [], .all⟩ := by
  unfold eLc
  rw [hi, bind_ret, lcGo_map (F := fun x => rP (f x)) h]
  show lcEnd ct _ = _
  unfold lcEnd
  rw [datas_map (f := f) (fun _ => rfl)]
  have hl2 : ((items.filter p).map f).length ≤ 16777216 := by
    rw [List.length_map]
    exact Nat.le_trans (List.length_filter_le _ _) hl
  show (if ((items.filter p).map f).length ≤ 16777216 then _ else _) = _
  rw [if_pos hl2]
  have ha : allF ((items.filter p).map fun x => rP (f x)) = true := by unfold allF; rw [List.all_map]; simp [List.all_eq_true]
  unfold dispF
  rw [if_pos ha, fin_all]
theorem filter_true {α : Type} (xs : List α) : xs.filter (fun _ => true) = xs := List.filter_eq_self.mpr fun _ _ => rfl
theorem eLc_pure1 {own : List Nat} {i : SemI} {g : SemG} {e : SemE} {Γ : FEnv} {σ : SD} {items : List PyData} {ct : List Nat} {f : PyData → PyData} (hi : i Γ σ = .ret (items, ct)) (hl : items.length ≤ 16777216)
    (h : ∀ x ∈ items, ∃ σ1, g x (wipeD (demote ct σ) own) = .ret σ1 ∧ e Γ σ1 = .ret (rP (f x))) : eLc own i g tYesD e Γ σ = .ret ⟨.dat (.list (items.map f)), [], .all⟩ := by
  have := eLc_pure (own := own) (t := tYesD) (p := fun _ => true) (f := f) (e := e) hi hl fun x hx => let ⟨σ1, a, b⟩ := h x hx; ⟨σ1, a, rfl, fun _ => b⟩
  rw [filter_true] at this
  exact this
theorem bools_map {α : Type} (q : α → Bool) : ∀ xs : List α, bools (xs.map fun x => .bool (q x)) = some (xs.map q)
  | [] => rfl
  | x :: xs => by
    show (bools (xs.map fun x => .bool (q x))).map (q x :: ·) = _
    rw [bools_map q xs]; rfl
theorem eAll_of {e : SemE} {Γ : FEnv} {σ : SD} {α : Type} {xs : List α} {q : α → Bool} {f : Fr} (h : e Γ σ = .ret ⟨.dat (.list (xs.map fun x => .bool (q x))), [], f⟩) : eAll e Γ σ = .ret (rP (.bool (xs.all q))) := by
  unfold eAll eUn
  rw [h]
  show (match oAll (.list (xs.map fun x => .bool (q x))) with
    | some r => M.ret (rP r)
    | none => .fail) = _
  unfold oAll
  dsimp only
  rw [bools_map]
  show M.ret (rP (.bool ((xs.map q).all id))) = _
  rw [List.all_map]
  rfl
theorem eCall_of {i : Nat} {a : SemA} {Γ : FEnv} {σ : SD} {rs : List R} {z : Vl × Fr} (ha : a Γ σ = .ret rs) (hz : Γ i (rs.map (·.v)) = .ret z) : eCall i a Γ σ = .ret (finV z.1 (tsOf rs) z.2) := by
  unfold eCall
  rw [ha, bind_ret, hz, bind_ret]
/-! statements, one behind another -/
theorem sSeq_nx {a b : SemS} {Γ : FEnv} {σ σ' : SD} (h : a Γ σ = .ret (.nx σ')) : sSeq a b Γ σ = b Γ σ' := by
  unfold sSeq
  rw [h]
  rfl
theorem sSeq_rt {a b : SemS} {Γ : FEnv} {σ σ' : SD} {v : Vl} {f : Fr} (h : a Γ σ = .ret (.rt v f σ')) : sSeq a b Γ σ = .ret (.rt v f σ') := by
  unfold sSeq
  rw [h]
  rfl
theorem sRet_of {e : SemE} {Γ : FEnv} {σ : SD} {r : R} (h : e Γ σ = .ret r) : sRet e Γ σ = .ret (.rt r.v r.f (demote r.t σ)) := by
  unfold sRet
  rw [h]
  rfl
theorem sSet_of {i : Nat} {e : SemE} {Γ : FEnv} {σ : SD} {r : R} (h : e Γ σ = .ret r) : sSet i e Γ σ = .ret (.nx (setS i r σ)) := by
  unfold sSet
  rw [h]
  rfl
theorem sIf_of {t : SemT} {a b : SemS} {Γ : FEnv} {σ : SD} {c : Bool} (h : t Γ σ = .ret c) : sIf t a b Γ σ = if c then a Γ σ else b Γ σ := by
  unfold sIf
  rw [h]
  rfl
/-- the end of a call -/
theorem call_rt {S : SemS} {np nl : Nat} {Γ : FEnv} {xs : List Vl} {v : Vl} {f : Fr} {σ : SD} (hl : xs.length = np) (h : S Γ (startN nl xs) = .ret (.rt v f σ)) : callS S np nl Γ xs = .ret (v, f) := by
  rw [call_eq hl, h]
  rfl
/-- a loop that neither breaks nor returns -/
theorem forGo_fold {g : SemG} {b : SemS} {Γ : FEnv} (st : Nat → SD) : ∀ (items : List PyData) (k : Nat), (∀ j x, items[j]? = some x → ∃ σ1, g x (st (k + j)) = .ret σ1 ∧ b Γ σ1 = .ret (.nx (st (k + j + 1)))) → forGo g b Γ items (st k) = .ret (.nx (st (k + items.length)))
  | [], k, _ => rfl
  | x :: xs, k, h => by
    obtain ⟨σ1, h1, h2⟩ := h 0 x rfl
    unfold forGo
    rw [Nat.add_zero] at h1 h2
    rw [h1, bind_ret, h2]
    show forGo g b Γ xs (st (k + 1)) = _
    rw [forGo_fold st xs (k + 1) fun j y hj => by
      have := h (j + 1) y (by simpa using hj)
      rw [show k + (j + 1) = k + 1 + j by omega] at this
      exact this]
    rw [List.length_cons, show k + 1 + xs.length = k + (xs.length + 1) by omega]
end DD
set_option Elab.async false
set_option linter.all false
set_option maxRecDepth 100000
set_option maxHeartbeats 4000000
/-! PD: the meanings of defs as combinators (printed by PR); the callees' places are parameters. -/
namespace DD
open PySem
/-- slots: thing -/
def S_is_list : SemS := (sSeq (sRet (eIsi (eVar 0) [.list, .tuple])) sNil)
/-- slots: thing -/
def S_is_whole : SemS := (sSeq (sRet (eAnd (eIsi (eVar 0) [.int]) (eNot (eIsi (eVar 0) [.bool])))) sNil)
/-- slots: thing -/
def S_is_number (i_is_whole : Nat) : SemS := (sSeq (sRet (eAnd (eCall i_is_whole (aCons (eVar 0) aNil)) (eOp oGe (eVar 0) (eC (.int 0))))) sNil)
/-- slots: thing, most -/
def S_is_below (i_is_number : Nat) : SemS := (sSeq (sRet (eAnd (eCall i_is_number (aCons (eVar 0) aNil)) (eOp oLt (eVar 0) (eVar 1)))) sNil)
/-- slots: thing, many -/
def S_is_row (i_is_list : Nat) : SemS := (sSeq (sRet (eAnd (eCall i_is_list (aCons (eVar 0) aNil)) (eOp oEq (eLen (eVar 0)) (eVar 1)))) sNil)
/-- slots: things, one, other -/
def S_is_ascending : SemS := (sSeq (sRet (eAll (eLc [1, 2] (iZip (eVar 0) (eSl (eVar 0) (oSome (eC (.int 1))) oNone)) (gTup [(gSlot 1), (gSlot 2)]) tYesD (eOp oLt (eVar 1) (eVar 2))))) sNil)
/-- slots: many, found, _, state, value -/
def S_states_of : SemS := (sSeq (sSet 1 (eLst (aCons (eTup aNil) aNil))) (sSeq (sFor (iRange1 (eVar 0)) (gSlot 2) (sSeq (sSet 1 (eLc2 [3, 4] [4] (iVal (eVar 1)) (gSlot 3) tYesD (iVal (eTup (aCons (eC (.int 0)) (aCons (eC (.int 1)) aNil)))) (gSlot 4) tYesD (eTup (aStar (eVar 3) (aCons (eVar 4) aNil))))) sNil)) (sSeq (sRetV 1) sNil)))
/-- slots: many, thing, one -/
def S_kept_values (i_is_row : Nat) (i_is_below : Nat) : SemS := (sSeq (sRet (eIf (tAnd (tVal (eCall i_is_row (aCons (eVar 1) (aCons (eVar 0) aNil)))) (tVal (eAll (eLc [2] (iVal (eVar 1)) (gSlot 2) tYesD (eCall i_is_below (aCons (eVar 2) (aCons (eC (.int 2)) aNil))))))) (eTuple (eVar 1)) (eC .none))) sNil)
/-- slots: many, thing, most, one -/
def S_kept_heeds (i_is_list : Nat) (i_is_below : Nat) (i_is_ascending : Nat) : SemS := (sSeq (sIf (tOr (tNot (tVal (eCall i_is_list (aCons (eVar 1) aNil)))) (tOr (tVal (eOp oGt (eLen (eVar 1)) (eVar 2))) (tNot (tVal (eAll (eLc [3] (iVal (eVar 1)) (gSlot 3) tYesD (eCall i_is_below (aCons (eVar 3) (aCons (eVar 0) aNil))))))))) (sSeq (sRet (eC .none)) sNil) sNil) (sSeq (sRet (eIf (tVal (eCall i_is_ascending (aCons (eVar 1) aNil))) (eTuple (eVar 1)) (eC .none))) sNil))
/-- slots: thing, found, pair, heeds, row -/
def S_kept_net (i_is_list : Nat) (i_is_row : Nat) (i_kept_heeds : Nat) (i_kept_values : Nat) : SemS := (sSeq (sIf (tOr (tNot (tVal (eCall i_is_list (aCons (eVar 0) aNil)))) (tVal (eOp oEq (eLen (eVar 0)) (eC (.int 0))))) (sSeq (sRet (eC .none)) sNil) sNil) (sSeq (sSet 1 (eLst aNil)) (sSeq (sFor (iVal (eVar 0)) (gSlot 2) (sSeq (sSet 3 (eIf (tVal (eCall i_is_row (aCons (eVar 2) (aCons (eC (.int 2)) aNil)))) (eCall i_kept_heeds (aCons (eLen (eVar 0)) (aCons (eIx (eVar 2) (eC (.int 0))) (aCons (eC (.int 4)) aNil)))) (eC .none))) (sSeq (sSet 4 (eIf (tVal (eOp oIsNotN (eVar 3) (eC .none))) (eCall i_kept_values (aCons (eOp oShl (eC (.int 1)) (eLen (eVar 3))) (aCons (eIx (eVar 2) (eC (.int 1))) aNil))) (eC .none))) (sSeq (sIf (tVal (eOp oIsN (eVar 4) (eC .none))) (sSeq (sRet (eC .none)) sNil) sNil) (sSeq (sApp 1 (eTup (aCons (eVar 3) (aCons (eVar 4) aNil)))) sNil))))) (sSeq (sRet (eTuple (eVar 1))) sNil))))
/-- slots: net, kept -/
def S_need_net (i_kept_net : Nat) : SemS := (sSeq (sSet 1 (eCall i_kept_net (aCons (eVar 0) aNil))) (sSeq (sIf (tVal (eOp oIsN (eVar 1) (eC .none))) (sSeq sFail sNil) sNil) (sSeq (sRetV 1) sNil)))
/-- slots: values, found, value -/
def S_number_of : SemS := (sSeq (sSet 1 (eC (.int 0))) (sSeq (sFor (iVal (eVar 0)) (gSlot 2) (sSeq (sSet 1 (eAdd (eMul (eC (.int 2)) (eVar 1)) (eVar 2))) sNil)) (sSeq (sRetV 1) sNil)))
/-- slots: net, state, switch, heeds, row, heed -/
def S_value_at (i_number_of : Nat) : SemS := (sSeq (sUnp (gTup [(gSlot 3), (gSlot 4)]) (eIx (eVar 0) (eVar 2))) (sSeq (sRet (eIx (eVar 4) (eCall i_number_of (aCons (eLc [5] (iVal (eVar 3)) (gSlot 5) tYesD (eIx (eVar 1) (eVar 5))) aNil)))) sNil))
/-- slots: net, state, switch -/
def S_next_by (i_value_at : Nat) : SemS := (sSeq (sRet (eTuple (eLc [2] (iRange1 (eLen (eVar 0))) (gSlot 2) tYesD (eCall i_value_at (aCons (eVar 0) (aCons (eVar 1) (aCons (eVar 2) aNil))))))) sNil)
/-- slots: net, state -/
def S_table_by (i_states_of : Nat) (i_next_by : Nat) : SemS := (sSeq (sRet (eDc [1] (iVal (eCall i_states_of (aCons (eLen (eVar 0)) aNil))) (gSlot 1) tYesD (eVar 1) (eCall i_next_by (aCons (eVar 0) (aCons (eVar 1) aNil))))) sNil)
/-- slots: net, kept, table, every, index, one, other, ahead, state -/
def S_undone_or_two (i_need_net : Nat) (i_table_by : Nat) : SemS := (sSeq (sSet 1 (eCall i_need_net (aCons (eVar 0) aNil))) (sSeq (sSet 2 (eCall i_table_by (aCons (eVar 1) aNil))) (sSeq (sSet 3 (eSorted2 (eVar 2))) (sSeq (sFor (iEnum (eVar 3)) (gTup [(gSlot 4), (gSlot 5)]) (sSeq (sFor (iVal (eSl (eVar 3) (oSome (eAdd (eVar 4) (eC (.int 1)))) oNone)) (gSlot 6) (sSeq (sIf (tVal (eOp oEq (eIx (eVar 2) (eVar 5)) (eIx (eVar 2) (eVar 6)))) (sSeq (sRet (eTup (aCons (eC (.str "two")) (aCons (eList (eVar 5)) (aCons (eList (eVar 6)) aNil))))) sNil) sNil) sNil)) sNil)) (sSeq (sSet 7 (eDc [8] (iVal (eVar 3)) (gSlot 8) tYesD (eIx (eVar 2) (eVar 8)) (eVar 8))) (sSeq (sRet (eTup (aCons (eC (.str "undone")) (aCons (eLc [8] (iVal (eVar 3)) (gSlot 8) tYesD (eList (eIx (eVar 7) (eVar 8)))) aNil)))) sNil))))))
/-- slots: stream, things -/
def S__law_pick (i__law_draw : Nat) : SemS := (sSeq (sRet (eIx (eVar 1) (eCall i__law_draw (aCons (eVar 0) (aCons (eLen (eVar 1)) aNil))))) sNil)
/-- slots: stream, things, left, found, k -/
def S__law_mixed (i__law_draw : Nat) : SemS := (sSeq (sPar2 2 3 (eList (eVar 1)) (eLst aNil)) (sSeq (sFor (iRange1 (eLen (eVar 2))) (gSlot 4) (sSeq (sAppPop 3 2 (eCall i__law_draw (aCons (eVar 0) (aCons (eLen (eVar 2)) aNil)))) sNil)) (sSeq (sRetV 3) sNil)))
/-- slots: found, due, mine, theirs -/
def S__law_same (i__law_same : Nat) : SemS := (sSeq (sIf (tVal (eIsi (eVar 1) [.list, .tuple])) (sSeq (sIf (tOr (tVal (eOp oNe (eIsi (eVar 0) [.list]) (eIsi (eVar 1) [.list]))) (tVal (eOp oNe (eIsi (eVar 0) [.tuple]) (eIsi (eVar 1) [.tuple])))) (sSeq (sRet (eC (.bool false))) sNil) sNil) (sSeq (sRet (eAnd (eOp oEq (eLen (eVar 0)) (eLen (eVar 1))) (eAll (eLc [2, 3] (iZip (eVar 0) (eVar 1)) (gTup [(gSlot 2), (gSlot 3)]) tYesD (eCall i__law_same (aCons (eVar 2) (aCons (eVar 3) aNil))))))) sNil)) sNil) (sSeq (sIf (tVal (eIsi (eVar 1) [.dict])) (sSeq (sRet (eAnd (eIsi (eVar 0) [.dict]) (eCall i__law_same (aCons (eItems (eVar 0)) (aCons (eItems (eVar 1)) aNil))))) sNil) sNil) (sSeq (sIf (tOr (tVal (eIsi (eVar 1) [.bool])) (tVal (eIsi (eVar 0) [.bool]))) (sSeq (sRet (eAnd (eIsi (eVar 1) [.bool]) (eAnd (eIsi (eVar 0) [.bool]) (eOp oEq (eVar 0) (eVar 1))))) sNil) sNil) (sSeq (sIf (tOr (tVal (eOp oIsN (eVar 1) (eC .none))) (tVal (eOp oIsN (eVar 0) (eC .none)))) (sSeq (sRet (eAnd (eOp oIsN (eVar 1) (eC .none)) (eOp oIsN (eVar 0) (eC .none)))) sNil) sNil) (sSeq (sIf (tOr (tVal (eOp oNe (eIsi (eVar 1) [.int]) (eIsi (eVar 0) [.int]))) (tVal (eOp oNe (eIsi (eVar 1) [.str]) (eIsi (eVar 0) [.str])))) (sSeq (sRet (eC (.bool false))) sNil) sNil) (sSeq (sRet (eAnd (eNot (eIsi (eVar 0) [.list, .tuple, .dict])) (eOp oEq (eVar 0) (eVar 1)))) sNil))))))
/-- slots: thing, some, key, one -/
def S__law_copied (i__law_copied : Nat) : SemS := (sSeq (sIf (tVal (eIsi (eVar 0) [.dict])) (sSeq (sRet (eDLc 0)) sNil) sNil) (sSeq (sSet 1 (eIf (tVal (eIsi (eVar 0) [.list, .tuple])) (eLc [3] (iVal (eVar 0)) (gSlot 3) tYesD (eCall i__law_copied (aCons (eVar 3) aNil))) (eVar 0))) (sSeq (sIf (tVal (eIsi (eVar 0) [.tuple])) (sRetT 1) (sRetV 1)) sNil)))
/-- slots: stream, thing, some, part -/
def S__law_loose (i__law_loose : Nat) (i__law_draw : Nat) : SemS := (sSeq (sIf (tNot (tVal (eIsi (eVar 1) [.list, .tuple]))) (sSeq (sRetV 1) sNil) sNil) (sSeq (sSet 2 (eLc [3] (iVal (eVar 1)) (gSlot 3) tYesD (eCall i__law_loose (aCons (eVar 0) (aCons (eVar 3) aNil))))) (sSeq (sIf (tVal (eOp oEq (eCall i__law_draw (aCons (eVar 0) (aCons (eC (.int 2)) aNil))) (eC (.int 0)))) (sRetT 2) (sRetV 2)) sNil)))
/-- slots: many, found, k, longer, state -/
def S__law_e_states : SemS := (sSeq (sSet 1 (eLst (aCons (eLst aNil) aNil))) (sSeq (sFor (iRange1 (eVar 0)) (gSlot 2) (sSeq (sSet 3 (eLst aNil)) (sSeq (sFor (iVal (eVar 1)) (gSlot 4) (sSeq (sExt 3 (eLst (aCons (eAdd (eVar 4) (eLst (aCons (eC (.int 0)) aNil))) (aCons (eAdd (eVar 4) (eLst (aCons (eC (.int 1)) aNil))) aNil)))) sNil)) (sSeq (sSet 1 (eVar 3)) sNil)))) (sSeq (sRetV 1) sNil)))
/-- slots: stream, most, many, net, way, switch, size, heeds, row, value -/
def S__law_e_net (i__law_draw : Nat) (i__law_mixed : Nat) (i__law_e_states : Nat) (i__law_pick : Nat) : SemS := (sSeq (sPar2 2 3 (eAdd (eC (.int 1)) (eCall i__law_draw (aCons (eVar 0) (aCons (eVar 1) aNil)))) (eLst aNil)) (sSeq (sSet 4 (eCall i__law_draw (aCons (eVar 0) (aCons (eC (.int 5)) aNil)))) (sSeq (sFor (iRange1 (eVar 2)) (gSlot 5) (sSeq (sSet 6 (eIf (tVal (eOp oGt (eVar 4) (eC (.int 1)))) (eCall i__law_draw (aCons (eVar 0) (aCons (eAdd (eMin2 (eVar 2) (eC (.int 4))) (eC (.int 1))) aNil))) (eC (.int 1)))) (sSeq (sSet 7 (eSorted2 (eSl (eCall i__law_mixed (aCons (eVar 0) (aCons (eLRg (eVar 2)) aNil))) oNone (oSome (eVar 6))))) (sSeq (sSet 8 (eLc [9] (iVal (eCall i__law_e_states (aCons (eVar 6) aNil))) (gSlot 9) tYesD (eCall i__law_draw (aCons (eVar 0) (aCons (eC (.int 2)) aNil))))) (sSeq (sIf (tOr (tVal (eOp oEq (eVar 4) (eC (.int 1)))) (tAnd (tVal (eOp oEq (eVar 4) (eC (.int 0)))) (tVal (eOp oEq (eVar 6) (eC (.int 1)))))) (sSeq (sSet 8 (eCall i__law_pick (aCons (eVar 0) (aCons (eLst (aCons (eLst (aCons (eC (.int 0)) (aCons (eC (.int 1)) aNil))) (aCons (eLst (aCons (eC (.int 0)) (aCons (eC (.int 1)) aNil))) (aCons (eLst (aCons (eC (.int 1)) (aCons (eC (.int 0)) aNil))) aNil)))) aNil)))) sNil) sNil) (sSeq (sIf (tVal (eOp oEq (eVar 4) (eC (.int 2)))) (sSeq (sSet 8 (eSorted2 (eVar 8))) sNil) sNil) (sSeq (sApp 3 (eTup (aCons (eVar 7) (aCons (eVar 8) aNil)))) sNil))))))) (sSeq (sRetV 3) sNil))))
/-- slots: pair, state, place, heed -/
def S__law_e_at : SemS := (sSeq (sSet 2 (eC (.int 0))) (sSeq (sFor (iVal (eIx (eVar 0) (eC (.int 0)))) (gSlot 3) (sSeq (sSet 2 (eAdd (eMul (eC (.int 2)) (eVar 2)) (eIx (eVar 1) (eVar 3)))) sNil)) (sSeq (sRet (eIx (eIx (eVar 0) (eC (.int 1))) (eVar 2))) sNil)))
/-- slots: net, state, pair -/
def S__law_e_step (i__law_e_at : Nat) : SemS := (sSeq (sRet (eLc [2] (iVal (eVar 0)) (gSlot 2) tYesD (eCall i__law_e_at (aCons (eVar 2) (aCons (eVar 1) aNil))))) sNil)
/-- slots: stream, many, order, net, switch, other, ahead, heeds, turned, one, state -/
def S__law_turning (i__law_draw : Nat) (i__law_mixed : Nat) (i__law_e_states : Nat) : SemS := (sSeq (sSet 1 (eAdd (eC (.int 1)) (eCall i__law_draw (aCons (eVar 0) (aCons (eC (.int 4)) aNil))))) (sSeq (sPar2 2 3 (eCall i__law_mixed (aCons (eVar 0) (aCons (eLRg (eVar 1)) aNil))) (eLst aNil)) (sSeq (sFor (iRange1 (eVar 1)) (gSlot 4) (sSeq (sSet 5 (eIx (eVar 2) (eVar 4))) (sSeq (sSet 6 (eSl (eLc [9] (iRange1 (eVar 1)) (gSlot 9) (tAnd (tVal (eOp oLt (eVar 9) (eVar 5))) (tVal (eOp oEq (eCall i__law_draw (aCons (eVar 0) (aCons (eC (.int 2)) aNil))) (eC (.int 0))))) (eVar 9)) oNone (oSome (eC (.int 2))))) (sSeq (sUnp (gTup [(gSlot 7), (gSlot 8)]) (eTup (aCons (eSorted2 (eAdd (eLst (aCons (eVar 5) aNil)) (eVar 6))) (aCons (eCall i__law_draw (aCons (eVar 0) (aCons (eC (.int 2)) aNil))) aNil)))) (sSeq (sApp 3 (eTup (aCons (eVar 7) (aCons (eLc [10] (iVal (eCall i__law_e_states (aCons (eLen (eVar 7)) aNil))) (gSlot 10) tYesD (eOp oMod (eInt (eAdd (eSum (eVar 10)) (eVar 8))) (eC (.int 2)))) aNil)))) sNil))))) (sSeq (sRetV 3) sNil))))
/-- slots: script, stream, turn, net, states, handed, was, table, pairs, at, one, due, told, two, state, place, other -/
def S_law (i__law_stream : Nat) (i__law_turning : Nat) (i__law_e_net : Nat) (i__law_e_states : Nat) (i__law_loose : Nat) (i__law_copied : Nat) (i__law_e_step : Nat) (i_undone_or_two : Nat) (i__law_same : Nat) (i__law_spoilt : Nat) : SemS := (sSeq (sSet 1 (eCall i__law_stream (aCons (eVar 0) aNil))) (sSeq (sFor (iRange1 (eC (.int 9))) (gSlot 2) (sSeq (sSet 3 (eIf (tVal (eOp oLt (eVar 2) (eC (.int 4)))) (eCall i__law_turning (aCons (eVar 1) aNil)) (eCall i__law_e_net (aCons (eVar 1) (aCons (eC (.int 5)) aNil))))) (sSeq (sUnp (gTup [(gSlot 4), (gSlot 5)]) (eTup (aCons (eCall i__law_e_states (aCons (eLen (eVar 3)) aNil)) (aCons (eCall i__law_loose (aCons (eVar 1) (aCons (eVar 3) aNil))) aNil)))) (sSeq (sUnp (gTup [(gSlot 6), (gSlot 7)]) (eTup (aCons (eCall i__law_copied (aCons (eVar 5) aNil)) (aCons (eLc [14] (iVal (eVar 4)) (gSlot 14) tYesD (eCall i__law_e_step (aCons (eVar 3) (aCons (eVar 14) aNil)))) aNil)))) (sSeq (sSet 8 (eLst aNil)) (sSeq (sFor (iEnum (eVar 4)) (gTup [(gSlot 9), (gSlot 10)]) (sSeq (sExt 8 (eLc [15, 16] (iEnum (eVar 4)) (gTup [(gSlot 15), (gSlot 16)]) (tAnd (tVal (eOp oGt (eVar 15) (eVar 9))) (tVal (eOp oEq (eIx (eVar 7) (eVar 15)) (eIx (eVar 7) (eVar 9))))) (eTup (aCons (eVar 10) (aCons (eVar 16) aNil))))) sNil)) (sSeq (sSet 11 (eIf (tVal (eOp oNe (eVar 8) (eLst aNil))) (eTup (aCons (eC (.str "two")) (aCons (eIx (eIx (eVar 8) (eC (.int 0))) (eC (.int 0))) (aCons (eIx (eIx (eVar 8) (eC (.int 0))) (eC (.int 1))) aNil)))) (eTup (aCons (eC (.str "undone")) (aCons (eLc [14] (iVal (eVar 4)) (gSlot 14) tYesD (eIx (eVar 4) (eIndex (eVar 7) (eVar 14)))) aNil))))) (sSeq (sSet 12 (eCall i_undone_or_two (aCons (eVar 5) aNil))) (sSeq (sIf (tNot (tVal (eCall i__law_same (aCons (eLst (aCons (eVar 12) (aCons (eCall i_undone_or_two (aCons (eCall i__law_copied (aCons (eVar 3) aNil)) aNil)) (aCons (eVar 5) aNil)))) (aCons (eLst (aCons (eVar 11) (aCons (eVar 11) (aCons (eVar 6) aNil)))) aNil))))) (sSeq (sRet (eC (.bool false))) sNil) sNil) (sSeq (sSpoL i__law_spoilt 12) (sSeq (sIf (tNot (tVal (eCall i__law_same (aCons (eCall i_undone_or_two (aCons (eCall i__law_copied (aCons (eVar 3) aNil)) aNil)) (aCons (eVar 11) aNil))))) (sSeq (sRet (eC (.bool false))) sNil) sNil) sNil))))))))))) (sSeq (sSet 13 (eLst (aCons (eTup (aCons (eLst (aCons (eC (.int 1)) aNil)) (aCons (eLst (aCons (eC (.int 0)) (aCons (eC (.int 1)) aNil))) aNil))) (aCons (eTup (aCons (eLst (aCons (eC (.int 0)) aNil)) (aCons (eLst (aCons (eC (.int 0)) (aCons (eC (.int 1)) aNil))) aNil))) aNil)))) (sSeq (sRet (eCall i__law_same (aCons (eLst (aCons (eCall i_undone_or_two (aCons (eVar 13) aNil)) (aCons (eCall i_undone_or_two (aCons (eLst (aCons (eTup (aCons (eLst aNil) (aCons (eLst (aCons (eC (.int 1)) aNil)) aNil))) aNil)) aNil)) aNil))) (aCons (eLst (aCons (eTup (aCons (eC (.str "undone")) (aCons (eLst (aCons (eLst (aCons (eC (.int 0)) (aCons (eC (.int 0)) aNil))) (aCons (eLst (aCons (eC (.int 1)) (aCons (eC (.int 0)) aNil))) (aCons (eLst (aCons (eC (.int 0)) (aCons (eC (.int 1)) aNil))) (aCons (eLst (aCons (eC (.int 1)) (aCons (eC (.int 1)) aNil))) aNil))))) aNil))) (aCons (eTup (aCons (eC (.str "two")) (aCons (eLst (aCons (eC (.int 0)) aNil)) (aCons (eLst (aCons (eC (.int 1)) aNil)) aNil)))) aNil))) aNil)))) sNil))))
end DD
set_option Elab.async false
set_option linter.all false
set_option maxRecDepth 100000
set_option maxHeartbeats 4000000
/-! PD2: more meanings of defs as combinators (printed by PR). -/
namespace DD
open PySem
/-- slots: net, thing -/
def S_kept_state (i_kept_values : Nat) : SemS := (sSeq (sRet (eCall i_kept_values (aCons (eLen (eVar 0)) (aCons (eVar 1) aNil)))) sNil)
/-- slots: net, state, kept -/
def S_need_state (i_kept_state : Nat) : SemS := (sSeq (sSet 2 (eCall i_kept_state (aCons (eVar 0) (aCons (eVar 1) aNil)))) (sSeq (sIf (tVal (eOp oIsN (eVar 2) (eC .none))) (sSeq sFail sNil) sNil) (sSeq (sRetV 2) sNil)))
/-- slots: net, state, switch, value -/
def S_restless_by (i_next_by : Nat) : SemS := (sSeq (sRet (eLc [2, 3] (iEnum (eCall i_next_by (aCons (eVar 0) (aCons (eVar 1) aNil)))) (gTup [(gSlot 2), (gSlot 3)]) (tVal (eOp oNe (eVar 3) (eIx (eVar 1) (eVar 2)))) (eVar 2))) sNil)
/-- slots: state, switch, place, value -/
def S_flipped : SemS := (sSeq (sRet (eTuple (eLc [2, 3] (iEnum (eVar 0)) (gTup [(gSlot 2), (gSlot 3)]) tYesD (eIf (tVal (eOp oEq (eVar 2) (eVar 1))) (eOp oSub (eC (.int 1)) (eVar 3)) (eVar 3))))) sNil)
/-- slots: net, state, switch -/
def S_goes_by (i_restless_by : Nat) (i_flipped : Nat) : SemS := (sSeq (sRet (eLc [2] (iVal (eCall i_restless_by (aCons (eVar 0) (aCons (eVar 1) aNil)))) (gSlot 2) tYesD (eTup (aCons (eVar 2) (aCons (eCall i_flipped (aCons (eVar 1) (aCons (eVar 2) aNil))) aNil))))) sNil)
/-- slots: net, goal, kept -/
def S_need_goal (i_kept_state : Nat) : SemS := (sSeq (sSet 2 (eCall i_kept_state (aCons (eVar 0) (aCons (eVar 1) aNil)))) (sSeq (sIf (tVal (eOp oIsN (eVar 2) (eC .none))) (sSeq sFail sNil) sNil) (sSeq (sRetV 2) sNil)))
/-- slots: net, state, goal, thing, kept, here, end, switch -/
def S_is_way (i_need_net : Nat) (i_need_state : Nat) (i_need_goal : Nat) (i_is_list : Nat) (i_is_below : Nat) (i_restless_by : Nat) (i_flipped : Nat) : SemS := (sSeq (sSet 4 (eCall i_need_net (aCons (eVar 0) aNil))) (sSeq (sSet 5 (eCall i_need_state (aCons (eVar 4) (aCons (eVar 1) aNil)))) (sSeq (sSet 6 (eCall i_need_goal (aCons (eVar 4) (aCons (eVar 2) aNil)))) (sSeq (sIf (tNot (tVal (eCall i_is_list (aCons (eVar 3) aNil)))) (sSeq (sRet (eC (.bool false))) sNil) sNil) (sSeq (sFor (iVal (eVar 3)) (gSlot 7) (sSeq (sIf (tOr (tNot (tVal (eCall i_is_below (aCons (eVar 7) (aCons (eLen (eVar 4)) aNil))))) (tVal (eOp oNotIn (eVar 7) (eCall i_restless_by (aCons (eVar 4) (aCons (eVar 5) aNil)))))) (sSeq (sRet (eC (.bool false))) sNil) sNil) (sSeq (sSet 5 (eCall i_flipped (aCons (eVar 5) (aCons (eVar 7) aNil)))) sNil))) (sSeq (sRet (eOp oEq (eVar 5) (eVar 6))) sNil))))))
/-- slots: net, state, goal, thing, kept, begin, end, lot, one, switch, there -/
def S_is_trap (i_need_net : Nat) (i_need_state : Nat) (i_need_goal : Nat) (i_is_list : Nat) (i_kept_state : Nat) (i_is_ascending : Nat) (i_goes_by : Nat) : SemS := (sSeq (sSet 4 (eCall i_need_net (aCons (eVar 0) aNil))) (sSeq (sSet 5 (eCall i_need_state (aCons (eVar 4) (aCons (eVar 1) aNil)))) (sSeq (sSet 6 (eCall i_need_goal (aCons (eVar 4) (aCons (eVar 2) aNil)))) (sSeq (sIf (tNot (tVal (eCall i_is_list (aCons (eVar 3) aNil)))) (sSeq (sRet (eC (.bool false))) sNil) sNil) (sSeq (sSet 7 (eLc [8] (iVal (eVar 3)) (gSlot 8) tYesD (eCall i_kept_state (aCons (eVar 4) (aCons (eVar 8) aNil))))) (sSeq (sIf (tOr (tVal (eOp oIn (eC .none) (eVar 7))) (tOr (tNot (tVal (eCall i_is_ascending (aCons (eVar 7) aNil)))) (tOr (tVal (eOp oNotIn (eVar 5) (eVar 7))) (tVal (eOp oIn (eVar 6) (eVar 7)))))) (sSeq (sRet (eC (.bool false))) sNil) sNil) (sSeq (sRet (eAll (eLc [8] (iVal (eVar 7)) (gSlot 8) tYesD (eAll (eLc [9, 10] (iVal (eCall i_goes_by (aCons (eVar 4) (aCons (eVar 8) aNil)))) (gTup [(gSlot 9), (gSlot 10)]) tYesD (eOp oIn (eVar 10) (eVar 7))))))) sNil)))))))
/-- slots: things, found, one -/
def S__law_unlike : SemS := (sSeq (sSet 1 (eLst aNil)) (sSeq (sFor (iVal (eSorted2 (eVar 0))) (gSlot 2) (sSeq (sExt 1 (eIf (tOr (tVal (eOp oEq (eVar 1) (eLst aNil))) (tVal (eOp oNe (eIx (eVar 1) (eUn oNeg (eC (.int 1)))) (eVar 2)))) (eLst (aCons (eVar 2) aNil)) (eLst aNil))) sNil)) (sSeq (sRetV 1) sNil)))
/-- slots: thing, most -/
def S__law_is_number : SemS := (sSeq (sRet (eAnd (eIsi (eVar 0) [.int]) (eAnd (eNot (eIsi (eVar 0) [.bool])) (eAnd (eOp oGe (eVar 0) (eC (.int 0))) (eOr (eOp oIsN (eVar 1) (eC .none)) (eOp oLt (eVar 0) (eVar 1))))))) sNil)
/-- slots: stream, thing, odds, at, way, middle, found -/
def S__law_e_bent (i__law_draw : Nat) (i__law_pick : Nat) (i__law_e_bent : Nat) : SemS := (sSeq (sIf (tOr (tNot (tVal (eIsi (eVar 1) [.list, .tuple]))) (tOr (tVal (eOp oEq (eLen (eVar 1)) (eC (.int 0)))) (tVal (eOp oEq (eCall i__law_draw (aCons (eVar 0) (aCons (eC (.int 6)) aNil))) (eC (.int 0)))))) (sSeq (sRet (eCall i__law_pick (aCons (eVar 0) (aCons (eVar 2) aNil)))) sNil) sNil) (sSeq (sPar2 3 4 (eCall i__law_draw (aCons (eVar 0) (aCons (eLen (eVar 1)) aNil))) (eCall i__law_draw (aCons (eVar 0) (aCons (eC (.int 7)) aNil)))) (sSeq (sSet 5 (eIf (tVal (eOp oEq (eVar 4) (eC (.int 0)))) (eLst aNil) (eIf (tVal (eOp oEq (eVar 4) (eC (.int 1)))) (eLst (aCons (eIx (eVar 1) (eVar 3)) (aCons (eIx (eVar 1) (eVar 3)) aNil))) (eLst (aCons (eCall i__law_e_bent (aCons (eVar 0) (aCons (eIx (eVar 1) (eVar 3)) (aCons (eVar 2) aNil)))) aNil))))) (sSeq (sSet 6 (eIf (tVal (eOp oNe (eVar 4) (eC (.int 2)))) (eAdd (eAdd (eList (eSl (eVar 1) oNone (oSome (eVar 3)))) (eVar 5)) (eList (eSl (eVar 1) (oSome (eAdd (eVar 3) (eC (.int 1)))) oNone))) (eRev (eList (eVar 1))))) (sSeq (sIf (tVal (eOp oEq (eCall i__law_draw (aCons (eVar 0) (aCons (eC (.int 2)) aNil))) (eC (.int 0)))) (sRetT 6) (sRetV 6)) sNil)))))
/-- slots: net, state, switch, value -/
def S__law_e_restless (i__law_e_step : Nat) : SemS := (sSeq (sRet (eLc [2, 3] (iEnum (eCall i__law_e_step (aCons (eVar 0) (aCons (eVar 1) aNil)))) (gTup [(gSlot 2), (gSlot 3)]) (tVal (eOp oNe (eVar 3) (eIx (eVar 1) (eVar 2)))) (eVar 2))) sNil)
/-- slots: state, switch -/
def S__law_e_flipped : SemS := (sSeq (sRet (eAdd (eAdd (eSl (eVar 0) oNone (oSome (eVar 1))) (eLst (aCons (eOp oSub (eC (.int 1)) (eIx (eVar 0) (eVar 1))) aNil))) (eSl (eVar 0) (oSome (eAdd (eVar 1) (eC (.int 1)))) oNone))) sNil)
/-- slots: net, state, found, at, switch, there -/
def S__law_e_reached (i__law_e_restless : Nat) (i__law_e_flipped : Nat) : SemS := (sSeq (sPar2 2 3 (eLst (aCons (eVar 1) aNil)) (eC (.int 0))) (sSeq (sWhile (tVal (eOp oLt (eVar 3) (eLen (eVar 2)))) (sSeq (sFor (iVal (eCall i__law_e_restless (aCons (eVar 0) (aCons (eIx (eVar 2) (eVar 3)) aNil)))) (gSlot 4) (sSeq (sSet 5 (eCall i__law_e_flipped (aCons (eIx (eVar 2) (eVar 3)) (aCons (eVar 4) aNil)))) (sSeq (sIf (tVal (eOp oNotIn (eVar 5) (eVar 2))) (sSeq (sApp 2 (eVar 5)) sNil) sNil) sNil))) (sSeq (sSet 3 (eAdd (eVar 3) (eC (.int 1)))) sNil))) (sSeq (sRet (eSorted2 (eVar 2))) sNil)))
/-- slots: net, state, goal, thing, here, switch -/
def S__law_is_way (i__law_is_number : Nat) (i__law_e_restless : Nat) (i__law_e_flipped : Nat) : SemS := (sSeq (sIf (tNot (tVal (eIsi (eVar 3) [.list, .tuple]))) (sSeq (sRet (eC (.bool false))) sNil) sNil) (sSeq (sSet 4 (eVar 1)) (sSeq (sFor (iVal (eVar 3)) (gSlot 5) (sSeq (sIf (tOr (tNot (tVal (eCall i__law_is_number (aCons (eVar 5) (aCons (eLen (eVar 0)) aNil))))) (tVal (eOp oNotIn (eVar 5) (eCall i__law_e_restless (aCons (eVar 0) (aCons (eVar 4) aNil)))))) (sSeq (sRet (eC (.bool false))) sNil) sNil) (sSeq (sSet 4 (eCall i__law_e_flipped (aCons (eVar 4) (aCons (eVar 5) aNil)))) sNil))) (sSeq (sRet (eOp oEq (eVar 4) (eVar 2))) sNil))))
/-- slots: net, state, goal, thing, one, lot, value, switch -/
def S__law_is_trap (i__law_is_number : Nat) (i__law_unlike : Nat) (i__law_e_restless : Nat) (i__law_e_flipped : Nat) : SemS := (sSeq (sIf (tNot (tVal (eIsi (eVar 3) [.list, .tuple]))) (sSeq (sRet (eC (.bool false))) sNil) sNil) (sSeq (sFor (iVal (eVar 3)) (gSlot 4) (sSeq (sIf (tOr (tNot (tVal (eIsi (eVar 4) [.list, .tuple]))) (tOr (tVal (eOp oNe (eLen (eVar 4)) (eLen (eVar 0)))) (tNot (tVal (eAll (eLc [6] (iVal (eVar 4)) (gSlot 6) tYesD (eCall i__law_is_number (aCons (eVar 6) (aCons (eC (.int 2)) aNil))))))))) (sSeq (sRet (eC (.bool false))) sNil) sNil) sNil)) (sSeq (sSet 5 (eLc [4] (iVal (eVar 3)) (gSlot 4) tYesD (eList (eVar 4)))) (sSeq (sIf (tOr (tVal (eOp oNe (eVar 5) (eCall i__law_unlike (aCons (eVar 5) aNil)))) (tOr (tVal (eOp oNotIn (eVar 1) (eVar 5))) (tVal (eOp oIn (eVar 2) (eVar 5))))) (sSeq (sRet (eC (.bool false))) sNil) sNil) (sSeq (sRet (eAll (eLc [4] (iVal (eVar 5)) (gSlot 4) tYesD (eAll (eLc [7] (iVal (eCall i__law_e_restless (aCons (eVar 0) (aCons (eVar 4) aNil)))) (gSlot 7) tYesD (eOp oIn (eCall i__law_e_flipped (aCons (eVar 4) (aCons (eVar 7) aNil))) (eVar 5))))))) sNil)))))
end DD
set_option Elab.async false
set_option linter.all false
set_option maxRecDepth 100000
set_option maxHeartbeats 4000000
/-! P2: what the small defs answer. -/
namespace DD
open PySem
def isWholeD : PyData → Bool
  | .int _ => true
  | _ => false
def isNumD : PyData → Bool
  | .int i => decide (0 ≤ i)
  | _ => false
def isBelowD (m : Int) : PyData → Bool
  | .int i => decide (0 ≤ i) && decide (i < m)
  | _ => false
variable {Γ : FEnv}
theorem sp_is_list (d : PyData) : callS S_is_list 1 1 Γ [.dat d] = .ret (.dat (.bool (isL d)), .all) := by
  refine call_ret (r := rP (.bool (isL d))) rfl ?_
  unfold eIsi eUn
  rw [eVar_at (s := ⟨.dat d, .no⟩) rfl, bind_ret]
  cases d <;> simp [isiO, isTy, isL]
theorem sp_is_whole (d : PyData) : callS S_is_whole 1 1 Γ [.dat d] = .ret (.dat (.bool (isWholeD d)), .all) := by
  refine call_ret (r := rP (.bool (isWholeD d))) rfl ?_
  unfold eAnd eIsi eUn
  rw [eVar_at (s := ⟨.dat d, .no⟩) rfl, bind_ret]
  cases d <;> simp [isiO, isTy, isWholeD, truR, tru, ofO, eNot, eUn, eVar, startN]
theorem sp_is_number {iw : Nat} (h : ∀ d, Γ iw [.dat d] = .ret (.dat (.bool (isWholeD d)), .all)) (d : PyData) : callS (S_is_number iw) 1 1 Γ [.dat d] = .ret (.dat (.bool (isNumD d)), .all) := by
  refine call_ret (r := rP (.bool (isNumD d))) rfl ?_
  unfold eAnd eCall aCons aNil
  rw [eVar_at (s := ⟨.dat d, .no⟩) rfl, bind_ret, bind_ret, bind_ret]
  show (Γ iw [(finV (.dat d) _ _).v] >>= _) >>= _ = _
  rw [finV_dat, fin_v, h]
  cases d <;> simp [isWholeD, isNumD, truR, tru, ofO, eOp, eVar, eC, startN, oGe, i2]
theorem sp_is_below {iN : Nat} (h : ∀ d, Γ iN [.dat d] = .ret (.dat (.bool (isNumD d)), .all)) (d : PyData) (m : Int) : callS (S_is_below iN) 2 2 Γ [.dat d, .dat (.int m)] = .ret (.dat (.bool (isBelowD m d)), .all) := by
  refine call_ret (r := rP (.bool (isBelowD m d))) rfl ?_
  unfold eAnd eCall aCons aNil
  rw [eVar_at (s := ⟨.dat d, .no⟩) rfl, bind_ret, bind_ret, bind_ret]
  show (Γ iN [(finV (.dat d) _ _).v] >>= _) >>= _ = _
  rw [finV_dat, fin_v, h]
  cases d <;> simp [isBelowD, isNumD, truR, tru, ofO, eOp, eVar, eC, startN, oLt, i2]
  rename_i i
  by_cases hi : 0 ≤ i <;> simp [hi]
end DD
set_option Elab.async false
set_option linter.all false
set_option maxRecDepth 100000
set_option maxHeartbeats 4000000
/-! P3: rows, kept values and heeds. -/
namespace DD
open PySem
variable {Γ : FEnv}
abbrev iL (ns : List Int) : List PyData := ns.map .int
def isRowD (n : Int) : PyData → Bool
  | .list xs => decide ((xs.length : Int) = n)
  | .tuple xs => decide ((xs.length : Int) = n)
  | _ => false
theorem oEq_int (a b : Int) : oEq (.int a) (.int b) = some (.bool (decide (a = b))) := by
  unfold oEq eqOk
  have h1 : min (PyData.int a).depth (PyData.int b).depth ≤ 150 := Nat.le_trans (Nat.min_le_left _ _) (show (PyData.int a).depth ≤ 150 from Nat.zero_le _)
  simp only [PyData.plain, Bool.and_self, Bool.true_and, decide_eq_true_eq]
  rw [if_pos h1]
  show some (PyData.bool (a == b)) = _
  by_cases h : a = b
  · subst h; simp
  · rw [beq_eq_false_iff_ne.mpr h, decide_eq_false h]
theorem sp_is_row {il : Nat} (h : ∀ d, Γ il [.dat d] = .ret (.dat (.bool (isL d)), .all)) (d : PyData) (n : Int) : callS (S_is_row il) 2 2 Γ [.dat d, .dat (.int n)] = .ret (.dat (.bool (isRowD n d)), .all) := by
  refine call_ret (r := rP (.bool (isRowD n d))) rfl ?_
  unfold eAnd eCall aCons aNil
  rw [eVar_at (s := ⟨.dat d, .no⟩) rfl, bind_ret, bind_ret, bind_ret]
  show (Γ il [(finV (.dat d) _ _).v] >>= _) >>= _ = _
  rw [finV_dat, fin_v, h]
  cases d <;> simp [isRowD, isL, truR, tru, ofO, eOp, eVar, eC, startN, eLen, eUn, oLen, oEq_int]
theorem cut1 (xs : List PyData) : cutD xs (some 1) none = xs.drop 1 := by
  unfold cutD HT.sIx
  cases xs with
  | nil => rfl
  | cons x xs => simp
def ascD (ns : List Int) : Bool := (ns.zip (ns.drop 1)).all fun p => decide (p.1 < p.2)
theorem sq_iVal {e : SemE} {Γ : FEnv} {σ : SD} {r : R} {d : PyData} {xs : List PyData} (h : e Γ σ = .ret r) (hv : r.v = .dat d) (hs : Sq d xs) : iVal e Γ σ = .ret (xs, r.t) := by
  unfold iVal
  rw [h]
  show (match r.v with
    | .dat (.list xs) => M.ret (xs, r.t)
    | .dat (.tuple xs) => M.ret (xs, r.t)
    | _ => .fail) = _
  rw [hv]
  rcases hs with rfl | rfl <;> rfl
theorem sp_is_ascending {d : PyData} {ns : List Int} (hs : Sq d (iL ns)) (hl : ns.length ≤ 16777216) : callS S_is_ascending 1 3 Γ [.dat d] = .ret (.dat (.bool (ascD ns)), .all) := by
  refine call_ret (r := rP (.bool (ascD ns))) rfl ?_
  have hz : ∃ ct, iZip (eVar 0) (eSl (eVar 0) (oSome (eC (.int 1))) oNone) Γ (startN 3 [.dat d]) = .ret (((ns.zip (ns.drop 1)).map fun p => pairD (.int p.1, .int p.2)), ct) := by
    have e0 := eVar_at (Γ := Γ) (σ := startN 3 [.dat d]) (i := 0) (s := ⟨.dat d, .no⟩) rfl
    have e1 : ((iL ns).zip ((iL ns).drop 1)).map pairD = (ns.zip (ns.drop 1)).map fun p => pairD (.int p.1, .int p.2) := by
      unfold iL
      rw [← List.map_drop, List.zip_map, List.map_map]
      rfl
    rcases hs with rfl | rfl
    · unfold iZip eSl oSome eC oNone
      rw [e0]
      simp only [bind_ret, finV_dat, slK, fin_v]
      rw [cut1, e1]
      exact ⟨_, rfl⟩
    · unfold iZip eSl oSome eC oNone
      rw [e0]
      simp only [bind_ret, finV_dat, slK, part, fin_v]
      rw [cut1, e1]
      exact ⟨_, rfl⟩
  obtain ⟨ct, hz⟩ := hz
  have hl2 : ((ns.zip (ns.drop 1)).map fun p => pairD (.int p.1, .int p.2)).length ≤ 16777216 := by
    rw [List.length_map, List.length_zip]
    exact Nat.le_trans (Nat.min_le_left _ _) hl
  have := eLc_pure1 (own := [1, 2]) (g := gTup [gSlot 1, gSlot 2]) (e := eOp oLt (eVar 1) (eVar 2)) (f := fun x => match x with
    | .tuple [.int a, .int b] => .bool (decide (a < b))
    | _ => .none) hz hl2 fun x hx => by
      obtain ⟨p, _, rfl⟩ := List.mem_map.mp hx
      refine ⟨_, rfl, ?_⟩
      simp [eOp, eVar, oLt, i2, wipeD, demote, startN, pur, finV, fin, pairD]
  rw [List.map_map] at this
  exact eAll_of (xs := ns.zip (ns.drop 1)) (q := fun p => decide (p.1 < p.2)) this
theorem purL_iL : ∀ ns : List Int, purL (iL ns) = true
  | [] => rfl
  | n :: ns => by
    show (pur (.int n) && purL (iL ns)) = true
    rw [purL_iL ns]
    rfl
/-- tuple(x) of plain ints -/
theorem eTuple_iL {e : SemE} {Γ : FEnv} {σ : SD} {r : R} {d : PyData} {ns : List Int} (h : e Γ σ = .ret r) (hv : r.v = .dat d) (hs : Sq d (iL ns)) : eTuple e Γ σ = .ret (rP (.tuple (iL ns))) := by
  have hp : pur (.tuple (iL ns)) = true := by
    exact purL_iL ns
  unfold eTuple eMon
  rw [h]
  show tupleK r = _
  unfold tupleK
  rw [hv]
  rcases hs with rfl | rfl <;> (unfold part; exact congrArg M.ret (fin_pur hp _ _))
theorem sp_kept_values {iR iB : Nat} (hR : ∀ d n, Γ iR [.dat d, .dat (.int n)] = .ret (.dat (.bool (isRowD n d)), .all)) (hB : ∀ d m, Γ iB [.dat d, .dat (.int m)] = .ret (.dat (.bool (isBelowD m d)), .all))
    {d : PyData} {ns : List Int} (hs : Sq d (iL ns)) (m : Int) (hl : ns.length ≤ 16777216) :
    callS (S_kept_values iR iB) 2 3 Γ [.dat (.int m), .dat d] = .ret (.dat (if (ns.length : Int) = m ∧ (ns.all fun n => decide (0 ≤ n) && decide (n < 2)) = true then .tuple (iL ns) else .none), .all) := by
  have e1 := eVar_at (Γ := Γ) (σ := startN 3 [.dat (.int m), .dat d]) (i := 1) (s := ⟨.dat d, .no⟩) rfl
  have e0 := eVar_at (Γ := Γ) (σ := startN 3 [.dat (.int m), .dat d]) (i := 0) (s := ⟨.dat (.int m), .no⟩) rfl
  have hrow : isRowD m d = decide ((ns.length : Int) = m) := by rcases hs with rfl | rfl <;> simp [isRowD]
  refine call_ret (r := rP (if (ns.length : Int) = m ∧ (ns.all fun n => decide (0 ≤ n) && decide (n < 2)) = true then .tuple (iL ns) else .none)) rfl ?_
  have hc : eCall iR (aCons (eVar 1) (aCons (eVar 0) aNil)) Γ (startN 3 [.dat (.int m), .dat d]) = .ret (rP (.bool (decide ((ns.length : Int) = m)))) := by
    rw [eCall_of (rs := [finV (.dat d) [] .no, finV (.dat (.int m)) [] .no]) (z := (.dat (.bool (isRowD m d)), .all)) (by unfold aCons aNil; rw [e1, e0]; rfl) (by simp [hR])]
    rw [hrow]
    simp
  have ha : eAll (eLc [2] (iVal (eVar 1)) (gSlot 2) tYesD (eCall iB (aCons (eVar 2) (aCons (eC (.int 2)) aNil)))) Γ (startN 3 [.dat (.int m), .dat d]) = .ret (rP (.bool (ns.all fun n => decide (0 ≤ n) && decide (n < 2)))) := by
    refine eAll_of (f := .all) ?_
    have := eLc_pure1 (own := [2]) (g := gSlot 2) (e := eCall iB (aCons (eVar 2) (aCons (eC (.int 2)) aNil))) (f := fun x => .bool (isBelowD 2 x)) (sq_iVal e1 (fin_v _ _ _) hs) (by simpa using hl) fun x hx => ⟨_, rfl, by
      rw [eCall_of (rs := [finV (.dat x) [] .no, rP (.int 2)]) (z := (.dat (.bool (isBelowD 2 x)), .all)) ?_ (by simp [hB])]
      · simp
      · obtain ⟨n, _, rfl⟩ := List.mem_map.mp hx
        simp [aCons, aNil, eVar, eC, wipeD, demote, startN, pur, finV, fin]⟩
    rw [List.map_map] at this
    exact this
  unfold eIf tAnd tVal
  rw [hc]
  simp only [bind_ret, truR, tru, ofO]
  by_cases h1 : (ns.length : Int) = m
  · rw [decide_eq_true h1]
    simp only [if_true, ha, bind_ret]
    cases h2 : (ns.all fun n => decide (0 ≤ n) && decide (n < 2)) with
    | true =>
      simp only [if_true]
      rw [eTuple_iL e1 (fin_v _ _ _) hs, if_pos (by simp [h1])]
    | false =>
      rw [if_neg (by simp), if_neg (by simp)]
      rfl
  · rw [decide_eq_false h1]
    simp only [if_false, bind_ret, Bool.false_eq_true, if_neg (fun z => h1 z.1 : ¬ ((ns.length : Int) = m ∧ _))]
    rfl
end DD
set_option Elab.async false
set_option linter.all false
set_option maxRecDepth 100000
set_option maxHeartbeats 4000000
/-! P4: kept heeds, kept nets. -/
namespace DD
open PySem
variable {Γ : FEnv}
theorem sq_isL {d : PyData} {xs : List PyData} (h : Sq d xs) : isL d = true := by rcases h with rfl | rfl <;> rfl
theorem sq_len {e : SemE} {Γ : FEnv} {σ : SD} {r : R} {d : PyData} {xs : List PyData} (h : e Γ σ = .ret r) (hv : r.v = .dat d) (hs : Sq d xs) : eLen e Γ σ = .ret (rP (.int xs.length)) := by
  unfold eLen eUn
  rw [h]
  show (match r.v with
    | .dat d => (match oLen d with
      | some r => M.ret (rP r)
      | none => .fail)
    | _ => .fail) = _
  rw [hv]
  rcases hs with rfl | rfl <;> rfl
/-- heeds that a net may have -/
def okH (m : Int) (most : Nat) (hs : List Int) : Prop := hs.length ≤ most ∧ (hs.all fun n => decide (0 ≤ n) && decide (n < m)) = true ∧ ascD hs = true
theorem sp_kept_heeds {iL' iB iA : Nat} (hL : ∀ d, Γ iL' [.dat d] = .ret (.dat (.bool (isL d)), .all)) (hB : ∀ d m, Γ iB [.dat d, .dat (.int m)] = .ret (.dat (.bool (isBelowD m d)), .all))
    (hA : ∀ (d : PyData) (ns : List Int), Sq d (iL ns) → ns.length ≤ 16777216 → Γ iA [.dat d] = .ret (.dat (.bool (ascD ns)), .all)) {d : PyData} {hs : List Int} (hd : Sq d (iL hs)) {m : Int} {most : Nat} (ok : okH m most hs) (hm : most ≤ 16777216) :
    callS (S_kept_heeds iL' iB iA) 3 4 Γ [.dat (.int m), .dat d, .dat (.int most)] = .ret (.dat (.tuple (iL hs)), .all) := by
  obtain ⟨o1, o2, o3⟩ := ok
  have hl : hs.length ≤ 16777216 := Nat.le_trans o1 hm
  have e0 := eVar_at (Γ := Γ) (σ := startN 4 [.dat (.int m), .dat d, .dat (.int most)]) (i := 0) (s := ⟨.dat (.int m), .no⟩) rfl
  have e1 := eVar_at (Γ := Γ) (σ := startN 4 [.dat (.int m), .dat d, .dat (.int most)]) (i := 1) (s := ⟨.dat d, .no⟩) rfl
  have e2 := eVar_at (Γ := Γ) (σ := startN 4 [.dat (.int m), .dat d, .dat (.int most)]) (i := 2) (s := ⟨.dat (.int most), .no⟩) rfl
  have hc : eCall iL' (aCons (eVar 1) aNil) Γ (startN 4 [.dat (.int m), .dat d, .dat (.int most)]) = .ret (rP (.bool true)) := by
    rw [eCall_of (rs := [finV (.dat d) [] .no]) (z := (.dat (.bool (isL d)), .all)) (by unfold aCons aNil; rw [e1]; rfl) (by simp [hL]), sq_isL hd]
    simp
  have hg : eOp oGt (eLen (eVar 1)) (eVar 2) Γ (startN 4 [.dat (.int m), .dat d, .dat (.int most)]) = .ret (rP (.bool false)) := by
    unfold eOp
    rw [sq_len e1 (fin_v _ _ _) hd, e2]
    have : ¬ ((most : Int) < ((iL hs).length : Int)) := by simp; omega
    simp [oGt, i2]
    exact o1
  have ha : eAll (eLc [3] (iVal (eVar 1)) (gSlot 3) tYesD (eCall iB (aCons (eVar 3) (aCons (eVar 0) aNil)))) Γ (startN 4 [.dat (.int m), .dat d, .dat (.int most)]) = .ret (rP (.bool (hs.all fun n => decide (0 ≤ n) && decide (n < m)))) := by
    refine eAll_of (f := .all) ?_
    have := eLc_pure1 (own := [3]) (g := gSlot 3) (e := eCall iB (aCons (eVar 3) (aCons (eVar 0) aNil))) (f := fun x => .bool (isBelowD m x)) (sq_iVal e1 (fin_v _ _ _) hd) (by simpa using hl) fun x hx => ⟨_, rfl, by
      rw [eCall_of (rs := [finV (.dat x) [] .no, rP (.int m)]) (z := (.dat (.bool (isBelowD m x)), .all)) ?_ (by simp [hB])]
      · simp
      · obtain ⟨n, _, rfl⟩ := List.mem_map.mp hx
        simp [aCons, aNil, eVar, eC, wipeD, demote, startN, pur, finV, fin]⟩
    rw [List.map_map] at this
    exact this
  have hasc : eCall iA (aCons (eVar 1) aNil) Γ (startN 4 [.dat (.int m), .dat d, .dat (.int most)]) = .ret (rP (.bool true)) := by
    rw [eCall_of (rs := [finV (.dat d) [] .no]) (z := (.dat (.bool (ascD hs)), .all)) (by unfold aCons aNil; rw [e1]; rfl) (by simp [hA d hs hd hl]), o3]
    simp
  have t1 : tOr (tNot (tVal (eCall iL' (aCons (eVar 1) aNil)))) (tOr (tVal (eOp oGt (eLen (eVar 1)) (eVar 2))) (tNot (tVal (eAll (eLc [3] (iVal (eVar 1)) (gSlot 3) tYesD (eCall iB (aCons (eVar 3) (aCons (eVar 0) aNil)))))))) Γ (startN 4 [.dat (.int m), .dat d, .dat (.int most)]) = .ret false := by
    unfold tOr tNot tVal
    rw [hc, hg, ha, o2]
    rfl
  have t2 : eIf (tVal (eCall iA (aCons (eVar 1) aNil))) (eTuple (eVar 1)) (eC .none) Γ (startN 4 [.dat (.int m), .dat d, .dat (.int most)]) = .ret (rP (.tuple (iL hs))) := by
    unfold eIf tVal
    rw [hasc]
    simp only [bind_ret, truR, tru, ofO, if_true]
    rw [eTuple_iL e1 (fin_v _ _ _) hd]
  have f1 : sIf (tOr (tNot (tVal (eCall iL' (aCons (eVar 1) aNil)))) (tOr (tVal (eOp oGt (eLen (eVar 1)) (eVar 2))) (tNot (tVal (eAll (eLc [3] (iVal (eVar 1)) (gSlot 3) tYesD (eCall iB (aCons (eVar 3) (aCons (eVar 0) aNil))))))))) (sSeq (sRet (eC .none)) sNil) sNil Γ (startN 4 [.dat (.int m), .dat d, .dat (.int most)]) = .ret (.nx (startN 4 [.dat (.int m), .dat d, .dat (.int most)])) := by
    unfold sIf
    rw [t1]
    rfl
  refine call_rt rfl ((sSeq_nx f1).trans (sSeq_rt (sRet_of t2)))
end DD
set_option Elab.async false
set_option linter.all false
set_option maxRecDepth 100000
set_option maxHeartbeats 4000000
/-! P5: kept nets. -/
namespace DD
open PySem
variable {Γ : FEnv}
theorem demote_nil (σ : SD) : demote [] σ = σ := by
  apply List.ext_getElem?
  intro i
  unfold demote
  rw [List.getElem?_mapIdx]
  cases σ[i]? with
  | none => rfl
  | some o => cases o <;> simp
abbrev NetT := List (List Int × List Int)
def PairD (p : PyData) (n : List Int × List Int) : Prop := ∃ a b, Sq p [a, b] ∧ Sq a (iL n.1) ∧ Sq b (iL n.2)
inductive All2 {α β : Type} (P : α → β → Prop) : List α → List β → Prop
  | nil : All2 P [] []
  | cons {a : α} {b : β} {as : List α} {bs : List β} : P a b → All2 P as bs → All2 P (a :: as) (b :: bs)
theorem All2.len {α β : Type} {P : α → β → Prop} {as : List α} {bs : List β} (h : All2 P as bs) : as.length = bs.length := by
  induction h with
  | nil => rfl
  | cons _ _ ih => simp [ih]
theorem All2.get {α β : Type} {P : α → β → Prop} {as : List α} {bs : List β} (h : All2 P as bs) : ∀ {i : Nat} {a : α}, as[i]? = some a → ∃ b, bs[i]? = some b ∧ P a b := by
  induction h with
  | nil => intro i a e; simp at e
  | cons p t ih =>
    intro i a e
    cases i with
    | zero => simp at e; subst e; exact ⟨_, rfl, p⟩
    | succ i => obtain ⟨b, e1, e2⟩ := ih (i := i) (a := a) (by simpa using e); exact ⟨b, by simpa using e1, e2⟩
def NetD (d : PyData) (nt : NetT) : Prop := ∃ ps, Sq d ps ∧ All2 PairD ps nt
def WfN (nt : NetT) : Prop := nt ≠ [] ∧ nt.length ≤ 20 ∧ ∀ n ∈ nt, okH nt.length 4 n.1 ∧ n.2.length = 2 ^ n.1.length ∧ (n.2.all fun x => decide (0 ≤ x) && decide (x < 2)) = true
/-- a kept pair, a kept net -/
def keptP (n : List Int × List Int) : PyData := .tuple [.tuple (iL n.1), .tuple (iL n.2)]
def keptN (nt : NetT) : PyData := .tuple (nt.map keptP)
theorem pur_iT (ns : List Int) : pur (.tuple (iL ns)) = true := purL_iL ns
theorem pur_keptP (n : List Int × List Int) : pur (keptP n) = true := by
  show (pur (.tuple (iL n.1)) && (pur (.tuple (iL n.2)) && true)) = true
  rw [pur_iT, pur_iT]; rfl
theorem pur_keptN (nt : NetT) : pur (keptN nt) = true := by
  show purL (nt.map keptP) = true
  induction nt with
  | nil => rfl
  | cons n nt ih =>
    show (pur (keptP n) && purL (nt.map keptP)) = true
    rw [pur_keptP, ih]; rfl
theorem sq_at {p : PyData} {xs : List PyData} (h : Sq p xs) {e : SemE} {Γ : FEnv} {σ : SD} {r : R} {i : Nat} {z : Int} {x : PyData} (hz : z = (i : Int)) (he : e Γ σ = .ret r) (hv : r.v = .dat p) (hx : xs[i]? = some x) : eIx e (eC (.int z)) Γ σ = .ret (part r x) := by
  subst hz
  unfold eIx eBin
  rw [he, bind_ret]
  show ixK r (rP (.int i)) = _
  unfold ixK
  rw [hv]
  have ha : atD xs i = some x := by
    unfold atD ixD
    have hl := (List.getElem?_eq_some_iff.mp hx).1
    rw [if_pos (by omega), if_pos (by omega)]
    simpa using hx
  rcases h with rfl | rfl <;> (dsimp only; rw [ha]; rfl)
theorem part_v (r : R) (d : PyData) : (part r d).v = .dat d := fin_v _ _ _
theorem part_t0 {r : R} (h : r.t = []) (d : PyData) : (part r d).t = [] := by
  unfold part fin
  split
  · rfl
  · split <;> first | rfl | exact h
/-- one pair kept -/
theorem kept_step {i2 i3 i4 : Nat} (hR : ∀ d n, Γ i2 [.dat d, .dat (.int n)] = .ret (.dat (.bool (isRowD n d)), .all))
    (hH : ∀ (d : PyData) (hs : List Int) (m : Int) (most : Nat), Sq d (iL hs) → okH m most hs → most ≤ 16777216 → Γ i3 [.dat (.int m), .dat d, .dat (.int most)] = .ret (.dat (.tuple (iL hs)), .all))
    (hV : ∀ (d : PyData) (ns : List Int) (m : Int), Sq d (iL ns) → ns.length ≤ 16777216 → Γ i4 [.dat (.int m), .dat d] = .ret (.dat (if (ns.length : Int) = m ∧ (ns.all fun n => decide (0 ≤ n) && decide (n < 2)) = true then .tuple (iL ns) else .none), .all))
    {d p : PyData} {ps : List PyData} {n : List Int × List Int} {fl : Fr} {o3 o4 : Option Sl} {fd : List PyData} (hs : Sq d ps) (hp : PairD p n) (h1 : okH ps.length 4 n.1) (h2 : n.2.length = 2 ^ n.1.length) (h3 : (n.2.all fun x => decide (0 ≤ x) && decide (x < 2)) = true) (hl : fd.length < 16777216) (hfl : fl = .all ∨ fl = .no) (hfp : fl = .all → pur p = true) :
    sSeq (sSet 3 (eIf (tVal (eCall i2 (aCons (eVar 2) (aCons (eC (.int 2)) aNil)))) (eCall i3 (aCons (eLen (eVar 0)) (aCons (eIx (eVar 2) (eC (.int 0))) (aCons (eC (.int 4)) aNil)))) (eC .none)))
      (sSeq (sSet 4 (eIf (tVal (eOp oIsNotN (eVar 3) (eC .none))) (eCall i4 (aCons (eOp oShl (eC (.int 1)) (eLen (eVar 3))) (aCons (eIx (eVar 2) (eC (.int 1))) aNil))) (eC .none)))
        (sSeq (sIf (tVal (eOp oIsN (eVar 4) (eC .none))) (sSeq (sRet (eC .none)) sNil) sNil) (sSeq (sApp 1 (eTup (aCons (eVar 3) (aCons (eVar 4) aNil)))) sNil))) Γ
      [some ⟨.dat d, .no⟩, some ⟨.dat (.list fd), .all⟩, some ⟨.dat p, fl⟩, o3, o4] =
    .ret (.nx [some ⟨.dat d, .no⟩, some ⟨.dat (.list (fd ++ [keptP n])), .all⟩, some ⟨.dat p, fl⟩, some ⟨.dat (.tuple (iL n.1)), .all⟩, some ⟨.dat (.tuple (iL n.2)), .all⟩]) := by
  obtain ⟨a, b, hq, ha, hb⟩ := hp
  have hrow : isRowD 2 p = true := by rcases hq with rfl | rfl <;> rfl
  have pt : ∀ {σ : SD}, σ[2]? = some (some ⟨.dat p, fl⟩) → ∃ t, eVar 2 Γ σ = .ret (finV (.dat p) t .no) ∧ (finV (.dat p) t .no).t = [] := fun {σ} h => by
    refine ⟨_, eVar_at h, ?_⟩
    rcases hfl with rfl | rfl
    · simp only [finV_dat]; rw [fin_pur (hfp rfl)]
    · simp only [if_true, finV_dat]; unfold fin; split <;> rfl
  let σ1 : SD := [some ⟨.dat d, .no⟩, some ⟨.dat (.list fd), .all⟩, some ⟨.dat p, fl⟩, o3, o4]
  obtain ⟨tp, ep, et⟩ := pt (σ := σ1) rfl
  have q1 : eIf (tVal (eCall i2 (aCons (eVar 2) (aCons (eC (.int 2)) aNil)))) (eCall i3 (aCons (eLen (eVar 0)) (aCons (eIx (eVar 2) (eC (.int 0))) (aCons (eC (.int 4)) aNil)))) (eC .none) Γ σ1 = .ret (rP (.tuple (iL n.1))) := by
    have c1 : eCall i2 (aCons (eVar 2) (aCons (eC (.int 2)) aNil)) Γ σ1 = .ret (rP (.bool true)) := by
      rw [eCall_of (rs := [finV (.dat p) tp .no, rP (.int 2)]) (z := (.dat (.bool (isRowD 2 p)), .all)) (by unfold aCons aNil eC; rw [ep]; rfl) (by simp [hR]), hrow]
      simp
    have c2 : eCall i3 (aCons (eLen (eVar 0)) (aCons (eIx (eVar 2) (eC (.int 0))) (aCons (eC (.int 4)) aNil))) Γ σ1 = .ret (rP (.tuple (iL n.1))) := by
      rw [eCall_of (rs := [rP (.int ps.length), part (finV (.dat p) tp .no) a, rP (.int 4)]) (z := (.dat (.tuple (iL n.1)), .all)) ?_ ?_]
      · rw [finV_dat, fin_all]
      · unfold aCons aNil
        rw [sq_len (eVar_at (s := ⟨.dat d, .no⟩) rfl) (fin_v _ _ _) hs, sq_at (i := 0) (z := 0) hq rfl ep (fin_v _ _ _) rfl]
        rfl
      · simp only [List.map_cons, List.map_nil, part_v]
        exact hH a n.1 _ 4 ha h1 (by decide)
    unfold eIf tVal
    rw [c1]
    simp only [bind_ret, truR, tru, ofO, if_true]
    exact c2
  refine (sSeq_nx (sSet_of q1)).trans ?_
  have hs1 : setS 3 (rP (.tuple (iL n.1))) σ1 = [some ⟨.dat d, .no⟩, some ⟨.dat (.list fd), .all⟩, some ⟨.dat p, fl⟩, some ⟨.dat (.tuple (iL n.1)), .all⟩, o4] := by
    show (demote [] σ1).set 3 _ = _
    rw [demote_nil]; rfl
  rw [hs1]
  let σ2 : SD := [some ⟨.dat d, .no⟩, some ⟨.dat (.list fd), .all⟩, some ⟨.dat p, fl⟩, some ⟨.dat (.tuple (iL n.1)), .all⟩, o4]
  obtain ⟨tp2, ep2, et2⟩ := pt (σ := σ2) rfl
  have e3 : ∀ {σ : SD}, σ[3]? = some (some ⟨.dat (.tuple (iL n.1)), .all⟩) → eVar 3 Γ σ = .ret (rP (.tuple (iL n.1))) := fun h => by rw [eVar_at h, finV_dat, fin_pur (pur_iT _)]
  have q2 : eIf (tVal (eOp oIsNotN (eVar 3) (eC .none))) (eCall i4 (aCons (eOp oShl (eC (.int 1)) (eLen (eVar 3))) (aCons (eIx (eVar 2) (eC (.int 1))) aNil))) (eC .none) Γ σ2 = .ret (rP (.tuple (iL n.2))) := by
    have c1 : eOp oIsNotN (eVar 3) (eC .none) Γ σ2 = .ret (rP (.bool true)) := by
      unfold eOp eC
      rw [e3 (σ := σ2) rfl]
      rfl
    have c3 : eOp oShl (eC (.int 1)) (eLen (eVar 3)) Γ σ2 = .ret (rP (.int (n.2.length : Int))) := by
      unfold eOp
      rw [sq_len (e3 (σ := σ2) rfl) rfl (.inr rfl)]
      have h4 : n.1.length ≤ 4 := h1.1
      simp only [eC, bind_ret, oShl, List.length_map]
      rw [if_pos ⟨by omega, by omega, by decide⟩]
      simp only [Int.one_mul, Int.toNat_natCast]
      rw [h2]
      norm_cast
    have c2 : eCall i4 (aCons (eOp oShl (eC (.int 1)) (eLen (eVar 3))) (aCons (eIx (eVar 2) (eC (.int 1))) aNil)) Γ σ2 = .ret (rP (.tuple (iL n.2))) := by
      have hlen : n.2.length ≤ 16777216 := by
        rw [h2]
        have : n.1.length ≤ 4 := h1.1
        exact Nat.le_trans (Nat.pow_le_pow_right (by decide) this) (by decide)
      rw [eCall_of (rs := [rP (.int n.2.length), part (finV (.dat p) tp2 .no) b]) (z := (.dat (.tuple (iL n.2)), .all)) ?_ ?_]
      · rw [finV_dat, fin_all]
      · unfold aCons aNil
        rw [c3, sq_at (i := 1) (z := 1) hq rfl ep2 (fin_v _ _ _) rfl]
        rfl
      · simp only [List.map_cons, List.map_nil, part_v]
        rw [hV b n.2 _ hb hlen, if_pos ⟨rfl, h3⟩]
    unfold eIf tVal
    rw [c1]
    simp only [bind_ret, truR, tru, ofO, if_true]
    exact c2
  refine (sSeq_nx (sSet_of q2)).trans ?_
  have hs2 : setS 4 (rP (.tuple (iL n.2))) σ2 = [some ⟨.dat d, .no⟩, some ⟨.dat (.list fd), .all⟩, some ⟨.dat p, fl⟩, some ⟨.dat (.tuple (iL n.1)), .all⟩, some ⟨.dat (.tuple (iL n.2)), .all⟩] := by
    show (demote [] σ2).set 4 _ = _
    rw [demote_nil]; rfl
  rw [hs2]
  let σ3 : SD := [some ⟨.dat d, .no⟩, some ⟨.dat (.list fd), .all⟩, some ⟨.dat p, fl⟩, some ⟨.dat (.tuple (iL n.1)), .all⟩, some ⟨.dat (.tuple (iL n.2)), .all⟩]
  have e4 : eVar 4 Γ σ3 = .ret (rP (.tuple (iL n.2))) := by rw [eVar_at (s := ⟨.dat (.tuple (iL n.2)), .all⟩) rfl, finV_dat, fin_pur (pur_iT _)]
  have q3 : sIf (tVal (eOp oIsN (eVar 4) (eC .none))) (sSeq (sRet (eC .none)) sNil) sNil Γ σ3 = .ret (.nx σ3) := by
    rw [sIf_of (c := false) (by unfold tVal eOp eC; rw [e4]; rfl)]
    rfl
  refine (sSeq_nx q3).trans ?_
  have q4 : sApp 1 (eTup (aCons (eVar 3) (aCons (eVar 4) aNil))) Γ σ3 = .ret (.nx [some ⟨.dat d, .no⟩, some ⟨.dat (.list (fd ++ [keptP n])), .all⟩, some ⟨.dat p, fl⟩, some ⟨.dat (.tuple (iL n.1)), .all⟩, some ⟨.dat (.tuple (iL n.2)), .all⟩]) := by
    have c1 : eTup (aCons (eVar 3) (aCons (eVar 4) aNil)) Γ σ3 = .ret (rP (keptP n)) := by
      unfold eTup aCons aNil
      rw [e3 (σ := σ3) rfl, e4]
      simp only [bind_ret, datas, Option.map_some]
      rw [if_pos (by simp), show PyData.tuple [.tuple (iL n.1), .tuple (iL n.2)] = keptP n from rfl, fin_pur (pur_keptP n)]
    unfold sApp
    rw [if_pos (by rfl), c1, bind_ret]
    unfold appK
    have : ¬ (Fr.all = Fr.no ∨ 1 ∈ ([] : List Nat) ∨ 16777216 ≤ fd.length) := by simp; omega
    simp only [σ3, List.getElem?_cons_succ, List.getElem?_cons_zero]
    rw [if_neg this, demote_nil]
    rfl
  refine (sSeq_nx q4).trans rfl
theorem sp_kept_net {i1 i2 i3 i4 : Nat} (hL : ∀ d, Γ i1 [.dat d] = .ret (.dat (.bool (isL d)), .all)) (hR : ∀ d n, Γ i2 [.dat d, .dat (.int n)] = .ret (.dat (.bool (isRowD n d)), .all))
    (hH : ∀ (d : PyData) (hs : List Int) (m : Int) (most : Nat), Sq d (iL hs) → okH m most hs → most ≤ 16777216 → Γ i3 [.dat (.int m), .dat d, .dat (.int most)] = .ret (.dat (.tuple (iL hs)), .all))
    (hV : ∀ (d : PyData) (ns : List Int) (m : Int), Sq d (iL ns) → ns.length ≤ 16777216 → Γ i4 [.dat (.int m), .dat d] = .ret (.dat (if (ns.length : Int) = m ∧ (ns.all fun n => decide (0 ≤ n) && decide (n < 2)) = true then .tuple (iL ns) else .none), .all))
    {d : PyData} {nt : NetT} (hd : NetD d nt) (wf : WfN nt) : callS (S_kept_net i1 i2 i3 i4) 1 5 Γ [.dat d] = .ret (.dat (keptN nt), .all) := by
  obtain ⟨ps, hs, h2⟩ := hd
  obtain ⟨w0, w1, w2⟩ := wf
  have hlen := h2.len
  have e0 := eVar_at (Γ := Γ) (σ := startN 5 [.dat d]) (i := 0) (s := ⟨.dat d, .no⟩) rfl
  have hc : eCall i1 (aCons (eVar 0) aNil) Γ (startN 5 [.dat d]) = .ret (rP (.bool true)) := by
    rw [eCall_of (rs := [finV (.dat d) [] .no]) (z := (.dat (.bool (isL d)), .all)) (by unfold aCons aNil; rw [e0]; rfl) (by simp [hL]), sq_isL hs]
    simp
  have hz : eOp oEq (eLen (eVar 0)) (eC (.int 0)) Γ (startN 5 [.dat d]) = .ret (rP (.bool false)) := by
    unfold eOp eC
    rw [sq_len e0 (fin_v _ _ _) hs]
    have : ¬ ((ps.length : Int) = 0) := by
      have : nt.length ≠ 0 := fun z => w0 (List.length_eq_zero_iff.mp z)
      omega
    rw [bind_ret, bind_ret]
    show (match oEq (.int ps.length) (.int 0) with
      | some r => M.ret (rP r)
      | none => .fail) = _
    rw [oEq_int, decide_eq_false this]
  have t1 : tOr (tNot (tVal (eCall i1 (aCons (eVar 0) aNil)))) (tVal (eOp oEq (eLen (eVar 0)) (eC (.int 0)))) Γ (startN 5 [.dat d]) = .ret false := by
    unfold tOr tNot tVal
    rw [hc, hz]
    rfl
  -- the loop's states
  let st : Nat → SD := fun k => [some ⟨.dat d, .no⟩, some ⟨.dat (.list ((nt.take k).map keptP)), .all⟩,
    (match k with
      | 0 => none
      | k + 1 => (match ps[k]? with
        | some p => some ⟨.dat p, if pur p then .all else .no⟩
        | none => none)),
    (match k with
      | 0 => none
      | k + 1 => (match nt[k]? with
        | some n => some ⟨.dat (.tuple (iL n.1)), .all⟩
        | none => none)),
    (match k with
      | 0 => none
      | k + 1 => (match nt[k]? with
        | some n => some ⟨.dat (.tuple (iL n.2)), .all⟩
        | none => none))]
  have f2 : sSet 1 (eLst aNil) Γ (startN 5 [.dat d]) = .ret (.nx (st 0)) := by
    rw [sSet_of (r := ⟨.dat (.list []), [], .all⟩) (by unfold eLst aNil; rfl)]
    show M.ret (Out.nx ((demote [] (startN 5 [.dat d])).set 1 _)) = _
    rw [demote_nil]
    rfl
  have hit : iVal (eVar 0) Γ (st 0) = .ret (ps, []) := by
    rw [sq_iVal (eVar_at (s := ⟨.dat d, .no⟩) rfl) (fin_v _ _ _) hs]
    congr 1
    simp [finV, fin]
    split <;> rfl
  have lp := forGo_fold (g := gSlot 2) (b := sSeq (sSet 3 (eIf (tVal (eCall i2 (aCons (eVar 2) (aCons (eC (.int 2)) aNil)))) (eCall i3 (aCons (eLen (eVar 0)) (aCons (eIx (eVar 2) (eC (.int 0))) (aCons (eC (.int 4)) aNil)))) (eC .none)))
      (sSeq (sSet 4 (eIf (tVal (eOp oIsNotN (eVar 3) (eC .none))) (eCall i4 (aCons (eOp oShl (eC (.int 1)) (eLen (eVar 3))) (aCons (eIx (eVar 2) (eC (.int 1))) aNil))) (eC .none)))
        (sSeq (sIf (tVal (eOp oIsN (eVar 4) (eC .none))) (sSeq (sRet (eC .none)) sNil) sNil) (sSeq (sApp 1 (eTup (aCons (eVar 3) (aCons (eVar 4) aNil)))) sNil)))) (Γ := Γ) st ps 0 fun j x hj => by
    rw [Nat.zero_add]
    obtain ⟨n, hn, hp⟩ := h2.get hj
    have hm : n ∈ nt := List.mem_of_getElem? hn
    obtain ⟨k1, k2, k3⟩ := w2 n hm
    have hjl : j < nt.length := (List.getElem?_eq_some_iff.mp hn).1
    refine ⟨[some ⟨.dat d, .no⟩, some ⟨.dat (.list ((nt.take j).map keptP)), .all⟩, some ⟨.dat x, if pur x then .all else .no⟩, (st j).getD 3 none, (st j).getD 4 none], by cases j <;> rfl, ?_⟩
    rw [kept_step hR hH hV hs hp (by rw [hlen]; exact k1) k2 k3 (by rw [List.length_map, List.length_take]; omega) (by cases pur x <;> simp) (by cases pur x <;> simp)]
    have e : (nt.take (j + 1)).map keptP = (nt.take j).map keptP ++ [keptP n] := by
      rw [List.take_succ, hn, List.map_append]; rfl
    simp only [st, e, hj, hn]
  have f3 : sFor (iVal (eVar 0)) (gSlot 2) (sSeq (sSet 3 (eIf (tVal (eCall i2 (aCons (eVar 2) (aCons (eC (.int 2)) aNil)))) (eCall i3 (aCons (eLen (eVar 0)) (aCons (eIx (eVar 2) (eC (.int 0))) (aCons (eC (.int 4)) aNil)))) (eC .none)))
      (sSeq (sSet 4 (eIf (tVal (eOp oIsNotN (eVar 3) (eC .none))) (eCall i4 (aCons (eOp oShl (eC (.int 1)) (eLen (eVar 3))) (aCons (eIx (eVar 2) (eC (.int 1))) aNil))) (eC .none)))
        (sSeq (sIf (tVal (eOp oIsN (eVar 4) (eC .none))) (sSeq (sRet (eC .none)) sNil) sNil) (sSeq (sApp 1 (eTup (aCons (eVar 3) (aCons (eVar 4) aNil)))) sNil)))) Γ (st 0) = .ret (.nx (st ps.length)) := by
    unfold sFor
    rw [hit, bind_ret, demote_nil, lp, Nat.zero_add]
  have q5 : eTuple (eVar 1) Γ (st ps.length) = .ret (rP (keptN nt)) := by
    have : eVar 1 Γ (st ps.length) = .ret ⟨.dat (.list (nt.map keptP)), [1], .no⟩ := by
      rw [eVar_at (s := ⟨.dat (.list ((nt.take ps.length).map keptP)), .all⟩) rfl]
      rw [hlen, List.take_length]
      rfl
    unfold eTuple eMon
    rw [this, bind_ret]
    show M.ret (part _ (keptN nt)) = _
    unfold part
    rw [fin_pur (pur_keptN nt)]
  have f1 : sIf (tOr (tNot (tVal (eCall i1 (aCons (eVar 0) aNil)))) (tVal (eOp oEq (eLen (eVar 0)) (eC (.int 0))))) (sSeq (sRet (eC .none)) sNil) sNil Γ (startN 5 [.dat d]) = .ret (.nx (startN 5 [.dat d])) := by
    rw [sIf_of t1]
    rfl
  exact call_rt rfl ((sSeq_nx f1).trans ((sSeq_nx f2).trans ((sSeq_nx f3).trans (sSeq_rt (sRet_of q5)))))
end DD
set_option Elab.async false
set_option linter.all false
set_option maxRecDepth 100000
set_option maxHeartbeats 4000000
/-! P6: what kept nets do. -/
namespace DD
open PySem
variable {Γ : FEnv}
theorem sRetV_of {i : Nat} {Γ : FEnv} {σ : SD} {s : Sl} (h : σ[i]? = some (some s)) : sRetV i Γ σ = .ret (.rt s.v s.m (σ.set i none)) := by
  unfold sRetV
  rw [h]
theorem sp_need_net {i : Nat} {d : PyData} {nt : NetT} (h : Γ i [.dat d] = .ret (.dat (keptN nt), .all)) : callS (S_need_net i) 1 2 Γ [.dat d] = .ret (.dat (keptN nt), .all) := by
  have e0 := eVar_at (Γ := Γ) (σ := startN 2 [.dat d]) (i := 0) (s := ⟨.dat d, .no⟩) rfl
  have c1 : eCall i (aCons (eVar 0) aNil) Γ (startN 2 [.dat d]) = .ret (rP (keptN nt)) := by
    rw [eCall_of (rs := [finV (.dat d) [] .no]) (z := (.dat (keptN nt), .all)) (by unfold aCons aNil; rw [e0]; rfl) (by simp [h]), finV_dat, fin_all]
  have hs : setS 1 (rP (keptN nt)) (startN 2 [.dat d]) = [some ⟨.dat d, .no⟩, some ⟨.dat (keptN nt), .all⟩] := by
    show (demote [] (startN 2 [.dat d])).set 1 _ = _
    rw [demote_nil]; rfl
  have q2 : sIf (tVal (eOp oIsN (eVar 1) (eC .none))) (sSeq sFail sNil) sNil Γ [some ⟨.dat d, .no⟩, some ⟨.dat (keptN nt), .all⟩] = .ret (.nx [some ⟨.dat d, .no⟩, some ⟨.dat (keptN nt), .all⟩]) := by
    rw [sIf_of (c := false) (by
      unfold tVal eOp eC
      rw [eVar_at (s := ⟨.dat (keptN nt), .all⟩) rfl, finV_dat, fin_pur (pur_keptN nt)]
      rfl)]
    rfl
  have q1 : sSet 1 (eCall i (aCons (eVar 0) aNil)) Γ (startN 2 [.dat d]) = .ret (.nx [some ⟨.dat d, .no⟩, some ⟨.dat (keptN nt), .all⟩]) := by
    rw [sSet_of c1, hs]
  exact call_rt rfl ((sSeq_nx q1).trans ((sSeq_nx q2).trans (sSeq_rt (sRetV_of (s := ⟨.dat (keptN nt), .all⟩) rfl))))
def numD (bs : List Int) : Int := bs.foldl (fun a b => 2 * a + b) 0
theorem numD_snoc (bs : List Int) (b : Int) : numD (bs ++ [b]) = 2 * numD bs + b := by unfold numD; rw [List.foldl_append]; rfl
theorem sp_number_of {d : PyData} {bs : List Int} (hs : Sq d (iL bs)) : callS S_number_of 1 3 Γ [.dat d] = .ret (.dat (.int (numD bs)), .all) := by
  let st : Nat → SD := fun k => [some ⟨.dat d, .no⟩, some ⟨.dat (.int (numD (bs.take k))), .all⟩, (match k with
    | 0 => none
    | k + 1 => (match bs[k]? with
      | some b => some ⟨.dat (.int b), .all⟩
      | none => none))]
  have f1 : sSet 1 (eC (.int 0)) Γ (startN 3 [.dat d]) = .ret (.nx (st 0)) := by
    rw [sSet_of (r := rP (.int 0)) rfl]
    show M.ret (Out.nx ((demote [] (startN 3 [.dat d])).set 1 _)) = _
    rw [demote_nil]
    rfl
  have hit : iVal (eVar 0) Γ (st 0) = .ret (iL bs, []) := by
    rw [sq_iVal (eVar_at (s := ⟨.dat d, .no⟩) rfl) (fin_v _ _ _) hs]
    congr 1
    simp [finV, fin]
    split <;> rfl
  have lp := forGo_fold (g := gSlot 2) (b := sSeq (sSet 1 (eAdd (eMul (eC (.int 2)) (eVar 1)) (eVar 2))) sNil) (Γ := Γ) st (iL bs) 0 fun j x hj => by
    rw [Nat.zero_add]
    obtain ⟨b, hb, rfl⟩ : ∃ b, bs[j]? = some b ∧ x = .int b := by
      rw [List.getElem?_map] at hj
      cases e : bs[j]? with
      | none => rw [e] at hj; cases hj
      | some b => rw [e] at hj; exact ⟨b, rfl, (Option.some.inj hj).symm⟩
    refine ⟨[some ⟨.dat d, .no⟩, some ⟨.dat (.int (numD (bs.take j))), .all⟩, some ⟨.dat (.int b), .all⟩], by cases j <;> rfl, ?_⟩
    have c1 : eAdd (eMul (eC (.int 2)) (eVar 1)) (eVar 2) Γ [some ⟨.dat d, .no⟩, some ⟨.dat (.int (numD (bs.take j))), .all⟩, some ⟨.dat (.int b), .all⟩] = .ret (rP (.int (2 * numD (bs.take j) + b))) := by
      simp [eAdd, eMul, eBin, eC, eVar, mulK, addK, small64]
    rw [sSeq_nx (sSet_of c1)]
    show M.ret (Out.nx ((demote [] _).set 1 _)) = _
    rw [demote_nil, ← numD_snoc]
    have e : bs.take (j + 1) = bs.take j ++ [b] := by rw [List.take_succ, hb]; rfl
    simp only [st, e, hb]
    rfl
  have f2 : sFor (iVal (eVar 0)) (gSlot 2) (sSeq (sSet 1 (eAdd (eMul (eC (.int 2)) (eVar 1)) (eVar 2))) sNil) Γ (st 0) = .ret (.nx (st bs.length)) := by
    unfold sFor
    rw [hit, bind_ret, demote_nil, lp, Nat.zero_add, List.length_map]
  have f3 : sRetV 1 Γ (st bs.length) = .ret (.rt (.dat (.int (numD bs))) .all ((st bs.length).set 1 none)) := by
    have := sRetV_of (Γ := Γ) (i := 1) (σ := st bs.length) (s := ⟨.dat (.int (numD (bs.take bs.length))), .all⟩) rfl
    rw [List.take_length] at this
    exact this
  exact call_rt rfl ((sSeq_nx f1).trans ((sSeq_nx f2).trans (sSeq_rt f3)))
/-- a switch's value next -/
def valD (n : List Int × List Int) (s : List Int) : Int := n.2.getD (numD (n.1.map fun h => s.getD h.toNat 0)).toNat 0
def StepOk (n : List Int × List Int) (s : List Int) : Prop := (∀ h ∈ n.1, 0 ≤ h ∧ h < s.length) ∧ 0 ≤ numD (n.1.map fun h => s.getD h.toNat 0) ∧ numD (n.1.map fun h => s.getD h.toNat 0) < n.2.length ∧ n.1.length ≤ 16777216
theorem at_int {xs : List Int} {i : Int} (h0 : 0 ≤ i) (h1 : i < xs.length) : atD (iL xs) i = some (.int (xs.getD i.toNat 0)) := by
  unfold atD ixD
  have hl : (iL xs).length = xs.length := List.length_map ..
  rw [if_pos h0, hl, if_pos h1]
  show (iL xs)[i.toNat]? = _
  have hi : i.toNat < xs.length := by omega
  rw [List.getElem?_map, List.getElem?_eq_getElem hi, List.getD_eq_getElem?_getD, List.getElem?_eq_getElem hi]
  rfl
theorem eIx_of {a b : SemE} {x y : R} {Γ : FEnv} {σ : SD} (ha : a Γ σ = .ret x) (hb : b Γ σ = .ret y) : eIx a b Γ σ = ixK x y := by
  unfold eIx eBin
  rw [ha, bind_ret, hb, bind_ret]
theorem sp_value_at {i1 : Nat} (hN : ∀ (d : PyData) (bs : List Int), Sq d (iL bs) → Γ i1 [.dat d] = .ret (.dat (.int (numD bs)), .all)) {nt : NetT} {s : List Int} {k : Nat} {n : List Int × List Int} (hk : nt[k]? = some n) (ok : StepOk n s) :
    callS (S_value_at i1) 3 6 Γ [.dat (keptN nt), .dat (.tuple (iL s)), .dat (.int k)] = .ret (.dat (.int (valD n s)), .all) := by
  obtain ⟨o1, o2, o3, o4⟩ := ok
  let σ0 : SD := startN 6 [.dat (keptN nt), .dat (.tuple (iL s)), .dat (.int k)]
  let σ1 : SD := [some ⟨.dat (keptN nt), .no⟩, some ⟨.dat (.tuple (iL s)), .no⟩, some ⟨.dat (.int k), .no⟩, some ⟨.dat (.tuple (iL n.1)), .all⟩, some ⟨.dat (.tuple (iL n.2)), .all⟩, none]
  have f1 : sUnp (gTup [gSlot 3, gSlot 4]) (eIx (eVar 0) (eVar 2)) Γ σ0 = .ret (.nx σ1) := by
    have c1 : eIx (eVar 0) (eVar 2) Γ σ0 = .ret (rP (keptP n)) := by
      have e0 : eVar 0 Γ σ0 = .ret (rP (keptN nt)) := by rw [eVar_at (s := ⟨.dat (keptN nt), .no⟩) rfl, finV_dat, fin_pur (pur_keptN nt)]
      have e2 : eVar 2 Γ σ0 = .ret (rP (.int k)) := by rw [eVar_at (s := ⟨.dat (.int k), .no⟩) rfl]; simp
      unfold eIx eBin
      rw [e0, bind_ret, e2, bind_ret]
      have hl := (List.getElem?_eq_some_iff.mp hk).1
      have ha : atD (nt.map keptP) (k : Int) = some (keptP n) := by
        unfold atD ixD
        rw [if_pos (by omega), List.length_map, if_pos (by omega)]
        show (nt.map keptP)[(k : Int).toNat]? = _
        rw [Int.toNat_natCast, List.getElem?_map, hk]
        rfl
      show partO (rP (keptN nt)) (atD (nt.map keptP) k) = _
      rw [ha]
      show M.ret (part _ _) = _
      unfold part
      rw [fin_pur (pur_keptP n)]
    unfold sUnp
    rw [c1, bind_ret]
    show (gTup [gSlot 3, gSlot 4] (keptP n) (demote [] σ0) >>= fun σ' => M.ret (Out.nx σ')) = _
    rw [demote_nil]
    have p1 : pur (.tuple (iL n.1)) = true := pur_iT _
    have p2 : pur (.tuple (iL n.2)) = true := pur_iT _
    show M.ret (Out.nx ((σ0.set 3 (some ⟨.dat (.tuple (iL n.1)), if pur (.tuple (iL n.1)) then .all else .no⟩)).set 4 (some ⟨.dat (.tuple (iL n.2)), if pur (.tuple (iL n.2)) then .all else .no⟩))) = _
    rw [p1, p2]
    rfl
  have e1 : ∀ {σ : SD}, σ[1]? = some (some ⟨.dat (.tuple (iL s)), .no⟩) → eVar 1 Γ σ = .ret (rP (.tuple (iL s))) := fun h => by rw [eVar_at h, finV_dat, fin_pur (pur_iT _)]
  have e3 : eVar 3 Γ σ1 = .ret (rP (.tuple (iL n.1))) := by rw [eVar_at (s := ⟨.dat (.tuple (iL n.1)), .all⟩) rfl, finV_dat, fin_pur (pur_iT _)]
  have e4 : eVar 4 Γ σ1 = .ret (rP (.tuple (iL n.2))) := by rw [eVar_at (s := ⟨.dat (.tuple (iL n.2)), .all⟩) rfl, finV_dat, fin_pur (pur_iT _)]
  have c2 : eLc [5] (iVal (eVar 3)) (gSlot 5) tYesD (eIx (eVar 1) (eVar 5)) Γ σ1 = .ret ⟨.dat (.list (iL (n.1.map fun h => s.getD h.toNat 0))), [], .all⟩ := by
    have := eLc_pure1 (own := [5]) (g := gSlot 5) (e := eIx (eVar 1) (eVar 5)) (f := fun x => match x with
      | .int h => .int (s.getD h.toNat 0)
      | _ => .none) (σ := σ1) (Γ := Γ) (sq_iVal e3 rfl (.inr rfl)) (by rw [List.length_map]; exact o4) fun x hx => by
        obtain ⟨h, hh, rfl⟩ := List.mem_map.mp hx
        refine ⟨_, rfl, ?_⟩
        obtain ⟨h0, h1⟩ := o1 h hh
        refine (eIx_of (e1 (by rfl)) (eVar_at (s := ⟨.dat (.int h), .all⟩) rfl)).trans ?_
        show partO (rP (.tuple (iL s))) (atD (iL s) h) = _
        rw [at_int h0 h1]
        show M.ret (part _ _) = _
        unfold part
        rw [fin_int]
    rw [this]
    unfold iL
    rw [List.map_map, List.map_map]
    rfl
  have c3 : eCall i1 (aCons (eLc [5] (iVal (eVar 3)) (gSlot 5) tYesD (eIx (eVar 1) (eVar 5))) aNil) Γ σ1 = .ret (rP (.int (numD (n.1.map fun h => s.getD h.toNat 0)))) := by
    rw [eCall_of (rs := [⟨.dat (.list (iL (n.1.map fun h => s.getD h.toNat 0))), [], .all⟩]) (z := (.dat (.int (numD (n.1.map fun h => s.getD h.toNat 0))), .all)) (by unfold aCons aNil; rw [c2]; rfl) (hN _ _ (.inl rfl))]
    simp
  have c4 : eIx (eVar 4) (eCall i1 (aCons (eLc [5] (iVal (eVar 3)) (gSlot 5) tYesD (eIx (eVar 1) (eVar 5))) aNil)) Γ σ1 = .ret (rP (.int (valD n s))) := by
    refine (eIx_of e4 c3).trans ?_
    show partO (rP (.tuple (iL n.2))) (atD (iL n.2) _) = _
    rw [at_int o2 o3]
    show M.ret (part _ _) = _
    unfold part
    rw [fin_int]
    rfl
  exact call_rt rfl ((sSeq_nx f1).trans (sSeq_rt (sRet_of c4)))
end DD
set_option Elab.async false
set_option linter.all false
set_option maxRecDepth 100000
set_option maxHeartbeats 4000000
/-! P7: states. -/
namespace DD
open PySem
variable {Γ : FEnv}
def stD : Nat → List (List Int)
  | 0 => [[]]
  | n + 1 => (stD n).flatMap fun s => [s ++ [0], s ++ [1]]
def tI (s : List Int) : PyData := .tuple (iL s)
def lI (s : List Int) : PyData := .list (iL s)
theorem sp_states_of {n : Nat} (h : n ≤ 5) : callS S_states_of 1 5 Γ [.dat (.int n)] = .ret (.dat (.list ((stD n).map tI)), .all) := by
  match n, h with
  | 0, _ => kernel_rfl
  | 1, _ => kernel_rfl
  | 2, _ => kernel_rfl
  | 3, _ => kernel_rfl
  | 4, _ => kernel_rfl
  | 5, _ => kernel_rfl
theorem sp_law_e_states {n : Nat} (h : n ≤ 5) : callS S__law_e_states 1 5 Γ [.dat (.int n)] = .ret (.dat (.list ((stD n).map lI)), if n = 0 then .all else .no) := by
  match n, h with
  | 0, _ => kernel_rfl
  | 1, _ => kernel_rfl
  | 2, _ => kernel_rfl
  | 3, _ => kernel_rfl
  | 4, _ => kernel_rfl
  | 5, _ => kernel_rfl
def stepN (nt : NetT) (s : List Int) : List Int := nt.map fun n => valD n s
theorem sp_next_by {i1 : Nat} {nt : NetT} {s : List Int} (hl : nt.length ≤ 1000) (hV : ∀ k n, nt[k]? = some n → Γ i1 [.dat (keptN nt), .dat (tI s), .dat (.int (k : Nat))] = .ret (.dat (.int (valD n s)), .all)) :
    callS (S_next_by i1) 2 3 Γ [.dat (keptN nt), .dat (tI s)] = .ret (.dat (tI (stepN nt s)), .all) := by
  let σ0 : SD := startN 3 [.dat (keptN nt), .dat (tI s)]
  have hp : pur (tI s) = true := pur_iT s
  have e0 : ∀ {σ : SD}, σ[0]? = some (some ⟨.dat (keptN nt), .no⟩) → eVar 0 Γ σ = .ret (rP (keptN nt)) := fun h => by rw [eVar_at h, finV_dat, fin_pur (pur_keptN nt)]
  have e1 : ∀ {σ : SD}, σ[1]? = some (some ⟨.dat (tI s), .no⟩) → eVar 1 Γ σ = .ret (rP (tI s)) := fun h => by rw [eVar_at h, finV_dat, fin_pur hp]
  have ln : eLen (eVar 0) Γ σ0 = .ret (rP (.int (nt.map keptP).length)) := sq_len (e0 rfl) rfl (.inr rfl)
  have it : iRange1 (eLen (eVar 0)) Γ σ0 = .ret (rangeD 0 nt.length, []) := by
    unfold iRange1
    rw [ln, bind_ret]
    show (if small62 ((nt.map keptP).length : Int) then M.ret (rangeD 0 ((nt.map keptP).length : Int).toNat, []) else .fail) = _
    rw [List.length_map, if_pos (by unfold small62; simp; omega)]
    simp
  have hm : ∀ x ∈ rangeD 0 nt.length, ∃ k : Nat, k < nt.length ∧ x = .int k := by
    intro x hx
    unfold rangeD at hx
    obtain ⟨k, hk, rfl⟩ := List.mem_map.mp hx
    exact ⟨k, List.mem_range.mp hk, by rw [Int.zero_add]⟩
  have c := eLc_pure1 (own := [2]) (g := gSlot 2) (e := eCall i1 (aCons (eVar 0) (aCons (eVar 1) (aCons (eVar 2) aNil)))) (f := fun x => match x with
    | .int k => .int (valD (nt.getD k.toNat ([], [])) s)
    | _ => .none) (σ := σ0) (Γ := Γ) it (by unfold rangeD; rw [List.length_map, List.length_range]; omega) fun x hx => by
      obtain ⟨k, hk, rfl⟩ := hm x hx
      refine ⟨_, rfl, ?_⟩
      have hg : nt[k]? = some nt[k] := List.getElem?_eq_getElem hk
      rw [eCall_of (rs := [rP (keptN nt), rP (tI s), rP (.int k)]) (z := (.dat (.int (valD nt[k] s)), .all)) (by
        unfold aCons aNil
        rw [e0 (by rfl), e1 (by rfl), eVar_at (s := ⟨.dat (.int k), .all⟩) (by rfl)]
        rfl) (hV k _ hg)]
      simp [hk, List.getD_eq_getElem?_getD]
  have c2 : (rangeD 0 nt.length).map (fun x => match x with
    | .int k => .int (valD (nt.getD k.toNat ([], [])) s)
    | _ => PyData.none) = iL (stepN nt s) := by
    unfold rangeD iL stepN
    apply List.ext_getElem
    · simp
    · intro i h1 h2
      simp at h1
      simp [h1, List.getD_eq_getElem?_getD]
  rw [c2] at c
  exact call_ret rfl (eTuple_iL c rfl (.inl rfl))
end DD
set_option Elab.async false
set_option linter.all false
set_option maxRecDepth 100000
set_option maxHeartbeats 4000000
/-! P8: tables. -/
namespace DD
open PySem
variable {Γ : FEnv}
theorem eqvAll_iL : ∀ a b : List Int, PyData.eqvAll (iL a) (iL b) = decide (a = b)
  | [], [] => by simp [PyData.eqvAll]
  | [], _ :: _ => by simp [PyData.eqvAll]
  | _ :: _, [] => by simp [PyData.eqvAll]
  | x :: xs, y :: ys => by
    show PyData.eqvAll (.int x :: iL xs) (.int y :: iL ys) = _
    rw [PyData.eqvAll, eqvAll_iL xs ys]
    have : PyData.eqv (.int x) (.int y) = decide (x = y) := by
      show (x == y) = _
      by_cases h : x = y
      · subst h; simp
      · rw [beq_eq_false_iff_ne.mpr h, decide_eq_false h]
    rw [this]
    by_cases h : x = y <;> by_cases h2 : xs = ys <;> simp [h, h2]
theorem eqv_tI (a b : List Int) : PyData.eqv (tI a) (tI b) = decide (a = b) := by
  show PyData.eqvAll (iL a) (iL b) = _
  exact eqvAll_iL a b
theorem eqv_lI (a b : List Int) : PyData.eqv (lI a) (lI b) = decide (a = b) := by
  show PyData.eqvAll (iL a) (iL b) = _
  exact eqvAll_iL a b
theorem plainAll_iL : ∀ a : List Int, PyData.plainAll (iL a) = true
  | [] => by simp [PyData.plainAll]
  | x :: xs => by
    show PyData.plainAll (.int x :: iL xs) = true
    rw [PyData.plainAll, plainAll_iL xs]
    rfl
theorem plain_tI (a : List Int) : PyData.plain (tI a) = true := plainAll_iL a
theorem plain_lI (a : List Int) : PyData.plain (lI a) = true := plainAll_iL a
theorem isKeyT_tI (a : List Int) : isKeyT (tI a) = true := by
  show (iL a).all isKey = true
  rw [List.all_map]
  simp [List.all_eq_true, isKey]
theorem keysOk_tI : ∀ {ss : List (List Int)}, ss.Nodup → keysOk (ss.map tI) = true
  | [], _ => rfl
  | s :: ss, h => by
    obtain ⟨h1, h2⟩ := List.nodup_cons.mp h
    show (isKeyT (tI s) && !((ss.map tI).any fun k' => PyData.eqv (tI s) k') && keysOk (ss.map tI)) = true
    rw [isKeyT_tI, keysOk_tI h2, List.any_map]
    have : (ss.any ((fun k' => PyData.eqv (tI s) k') ∘ tI)) = false := by
      rw [List.any_eq_false]
      intro x hx
      show ¬ (PyData.eqv (tI s) (tI x) = true)
      rw [eqv_tI]
      simp
      rintro rfl
      exact h1 hx
    rw [this]; rfl
theorem dGet_tI {f g : List Int → List Int} : ∀ {ss : List (List Int)} {s : List Int}, s ∈ ss → (∀ a ∈ ss, ∀ b ∈ ss, f a = f b → a = b) → dGet (ss.map fun x => (tI (f x), tI (g x))) (tI (f s)) = some (tI (g s))
  | x :: ss, s, h, inj => by
    show (if PyData.eqv (tI (f x)) (tI (f s)) then some (tI (g x)) else dGet (ss.map fun x => (tI (f x), tI (g x))) (tI (f s))) = _
    rw [eqv_tI]
    by_cases e : f x = f s
    · have := inj x List.mem_cons_self s h e
      subst this
      simp
    · rw [if_neg (by simpa using e)]
      refine dGet_tI ?_ fun a ha b hb => inj a (List.mem_cons_of_mem _ ha) b (List.mem_cons_of_mem _ hb)
      rcases List.mem_cons.mp h with rfl | h
      · exact absurd rfl e
      · exact h
theorem dcGo_map {α : Type} {p : α → PyData} {g : SemG} {ek ev : SemE} {Γ : FEnv} {σ : SD} {K V : α → PyData} : ∀ {items : List α}, (∀ x ∈ items, isKeyT (K x) = true ∧ ∃ σ1 r, g (p x) σ = .ret σ1 ∧ ek Γ σ1 = .ret r ∧ r.v = .dat (K x) ∧ ev Γ σ1 = .ret (rP (V x))) → dcGo g tYesD ek ev Γ σ (items.map p) = .ret (items.map fun x => (K x, rP (V x)))
  | [], _ => rfl
  | x :: xs, h => by
    obtain ⟨hk, σ1, r, h1, h2, h3, h4⟩ := h x List.mem_cons_self
    have ih := dcGo_map (items := xs) fun y hy => h y (List.mem_cons_of_mem _ hy)
    show dcGo _ _ _ _ _ _ (p x :: xs.map p) = _
    unfold dcGo
    rw [h1, bind_ret]
    have ht : tYesD Γ σ1 = .ret true := rfl
    rw [ht, bind_ret, if_pos rfl, h2, bind_ret, h4, bind_ret, h3]
    dsimp only
    rw [if_pos hk, ih, bind_ret]
    rfl
theorem datas_rP {α : Type} (V : α → PyData) : ∀ xs : List α, datas (xs.map fun x => rP (V x)) = some (xs.map V)
  | [] => rfl
  | x :: xs => by
    show (datas (xs.map fun x => rP (V x))).map (V x :: ·) = _
    rw [datas_rP V xs]; rfl
theorem eDc_of {α : Type} {p : α → PyData} {own : List Nat} {i : SemI} {g : SemG} {ek ev : SemE} {σ : SD} {ct : List Nat} {K V : α → PyData} {items : List α} (hi : i Γ σ = .ret (items.map p, ct)) (hl : items.length ≤ 16777215) (hne : items ≠ []) (hk : keysOk (items.map K) = true)
    (h : ∀ x ∈ items, isKeyT (K x) = true ∧ ∃ σ1 r, g (p x) (wipeD (demote ct σ) own) = .ret σ1 ∧ ek Γ σ1 = .ret r ∧ r.v = .dat (K x) ∧ ev Γ σ1 = .ret (rP (V x))) : eDc own i g tYesD ek ev Γ σ = .ret (rP (.dict (items.map fun x => (K x, V x)))) := by
  unfold eDc
  rw [hi, bind_ret]
  dsimp only
  rw [dcGo_map h]
  show dcEnd ct _ = _
  unfold dcEnd
  have e2 : (items.map fun x => (K x, rP (V x))).map (·.2) = items.map fun x => rP (V x) := by rw [List.map_map]; rfl
  have e1 : (items.map fun x => (K x, rP (V x))).map (·.1) = items.map K := by rw [List.map_map]; rfl
  rw [e1, e2, datas_rP V items]
  dsimp only
  rw [if_pos ⟨by rw [List.length_map]; exact hl, hk, by cases items with
    | nil => exact absurd rfl hne
    | cons _ _ => rfl⟩]
  have ha : allF (items.map fun x => rP (V x)) = true := by unfold allF; rw [List.all_map]; simp [List.all_eq_true]
  unfold dispF
  rw [if_pos ha, fin_all]
  have e3 : (items.map K).zip (items.map V) = items.map fun x => (K x, V x) := by
    rw [List.zip_map']
  rw [e3]
theorem stD_ne' (n : Nat) : stD n ≠ [] := by
  induction n with
  | zero => exact fun c => by cases c
  | succ n ih =>
    intro c
    cases h : stD n with
    | nil => exact ih h
    | cons a r =>
      have : stD (n + 1) = (stD n).flatMap fun s => [s ++ [0], s ++ [1]] := rfl
      rw [this, h, List.flatMap_cons] at c
      cases c
theorem stD_nodup {n : Nat} (h : n ≤ 5) : (stD n).Nodup := by
  match n, h with
  | 0, _ => decide
  | 1, _ => decide
  | 2, _ => decide
  | 3, _ => decide
  | 4, _ => decide
  | 5, _ => decide
theorem stD_len {n : Nat} (h : n ≤ 5) : (stD n).length ≤ 32 := by
  match n, h with
  | 0, _ => decide
  | 1, _ => decide
  | 2, _ => decide
  | 3, _ => decide
  | 4, _ => decide
  | 5, _ => decide
def tabD (nt : NetT) : PyData := .dict ((stD nt.length).map fun s => (tI s, tI (stepN nt s)))
theorem sp_table_by {i1 i2 : Nat} {nt : NetT} (hl : nt.length ≤ 5) (hS : Γ i1 [.dat (.int nt.length)] = .ret (.dat (.list ((stD nt.length).map tI)), .all))
    (hN : ∀ s ∈ stD nt.length, Γ i2 [.dat (keptN nt), .dat (tI s)] = .ret (.dat (tI (stepN nt s)), .all)) :
    callS (S_table_by i1 i2) 1 2 Γ [.dat (keptN nt)] = .ret (.dat (tabD nt), .all) := by
  let σ0 : SD := startN 2 [.dat (keptN nt)]
  have e0 : ∀ {σ : SD}, σ[0]? = some (some ⟨.dat (keptN nt), .no⟩) → eVar 0 Γ σ = .ret (rP (keptN nt)) := fun h => by rw [eVar_at h, finV_dat, fin_pur (pur_keptN nt)]
  have ln : eLen (eVar 0) Γ σ0 = .ret (rP (.int (nt.map keptP).length)) := sq_len (e0 rfl) rfl (.inr rfl)
  have it : iVal (eCall i1 (aCons (eLen (eVar 0)) aNil)) Γ σ0 = .ret ((stD nt.length).map tI, []) := by
    refine sq_iVal (r := rP (.list ((stD nt.length).map tI))) ?_ rfl (.inl rfl)
    rw [eCall_of (rs := [rP (.int (nt.map keptP).length)]) (z := (.dat (.list ((stD nt.length).map tI)), .all)) (by unfold aCons aNil; rw [ln]; rfl) (by rw [List.length_map]; exact hS)]
    rw [finV_dat, fin_all]
  have c := eDc_of (own := [1]) (g := gSlot 1) (ek := eVar 1) (ev := eCall i2 (aCons (eVar 0) (aCons (eVar 1) aNil))) (K := tI) (V := fun s => tI (stepN nt s)) it (Nat.le_trans (stD_len hl) (by decide)) (stD_ne' _) (keysOk_tI (stD_nodup hl)) fun s hs => by
    have hp : pur (tI s) = true := pur_iT s
    have e1 : eVar 1 Γ [some ⟨.dat (keptN nt), .no⟩, some ⟨.dat (tI s), .all⟩] = .ret (rP (tI s)) := by
      rw [eVar_at (s := ⟨.dat (tI s), .all⟩) rfl, finV_dat, fin_pur hp]
    refine ⟨isKeyT_tI s, [some ⟨.dat (keptN nt), .no⟩, some ⟨.dat (tI s), .all⟩], rP (tI s), ?_, e1, rfl, ?_⟩
    · unfold gSlot
      rw [hp]
      rfl
    · rw [eCall_of (rs := [rP (keptN nt), rP (tI s)]) (z := (.dat (tI (stepN nt s)), .all)) (by
        unfold aCons aNil
        rw [e0 rfl, e1]
        rfl) (hN s hs)]
      rw [finV_dat, fin_all]
  exact call_ret rfl c
end DD
set_option Elab.async false
set_option linter.all false
set_option maxRecDepth 100000
set_option maxHeartbeats 4000000
/-! P9: undone or two. -/
namespace DD
open PySem
variable {Γ : FEnv}
theorem depthAll_iL : ∀ a : List Int, PyData.depthAll (iL a) = 0
  | [] => by simp [PyData.depthAll]
  | x :: xs => by
    show PyData.depthAll (.int x :: iL xs) = 0
    rw [PyData.depthAll, depthAll_iL xs]
    rfl
theorem depth_tI (a : List Int) : PyData.depth (tI a) ≤ 1 := by
  show PyData.depth (.tuple (iL a)) ≤ 1
  rw [PyData.depth, depthAll_iL]
  decide
theorem oEq_tI (a b : List Int) : oEq (tI a) (tI b) = some (.bool (decide (a = b))) := by
  unfold oEq eqOk
  have h1 : min (tI a).depth (tI b).depth ≤ 150 := Nat.le_trans (Nat.min_le_left _ _) (Nat.le_trans (depth_tI a) (by decide))
  rw [plain_tI, plain_tI, eqv_tI]
  simp [h1]
/-- a loop that looks for something -/
theorem forGo_search {α : Type} {p : α → PyData} {g : SemG} {b : SemS} (I : SD → Prop) (P : α → Option (Vl × Fr)) : ∀ {items : List α} {σ : SD}, I σ →
    (∀ x ∈ items, ∀ σ, I σ → ∃ σ1, g (p x) σ = .ret σ1 ∧ ((P x = none ∧ ∃ σ2, b Γ σ1 = .ret (.nx σ2) ∧ I σ2) ∨ ∃ z σ2, P x = some z ∧ b Γ σ1 = .ret (.rt z.1 z.2 σ2))) →
    (items.findSome? P = none ∧ ∃ σ2, forGo g b Γ (items.map p) σ = .ret (.nx σ2) ∧ I σ2) ∨ ∃ z σ2, items.findSome? P = some z ∧ forGo g b Γ (items.map p) σ = .ret (.rt z.1 z.2 σ2)
  | [], σ, i, _ => .inl ⟨rfl, σ, rfl, i⟩
  | x :: xs, σ, i, h => by
    obtain ⟨σ1, h1, ⟨h2, σ2, h3, i2⟩ | ⟨z, σ2, h2, h3⟩⟩ := h x List.mem_cons_self σ i
    · have e : forGo g b Γ ((x :: xs).map p) σ = forGo g b Γ (xs.map p) σ2 := by
        show forGo g b Γ (p x :: xs.map p) σ = _
        rw [forGo, h1, bind_ret, h3]
        rfl
      rw [e, List.findSome?_cons, h2]
      exact forGo_search I P i2 fun y hy => h y (List.mem_cons_of_mem _ hy)
    · refine .inr ⟨z, σ2, by rw [List.findSome?_cons, h2], ?_⟩
      show forGo g b Γ (p x :: xs.map p) σ = _
      rw [forGo, h1, bind_ret, h3]
      rfl
/-- the first two states with one state ahead -/
def two1 (T : List Int → List Int) (a : List Int) (r : List (List Int)) : Option (List Int × List Int) := (r.find? fun b => decide (T a = T b)).map fun b => (a, b)
def two (T : List Int → List Int) : List (List Int) → Option (List Int × List Int)
  | [] => none
  | a :: r => match two1 T a r with
    | some z => some z
    | none => two T r
theorem two_none {T : List Int → List Int} : ∀ {ss : List (List Int)}, two T ss = none → ss.Nodup → ∀ a ∈ ss, ∀ b ∈ ss, T a = T b → a = b
  | [], _, _, a, ha, _, _, _ => nomatch ha
  | s :: ss, h, nd, a, ha, b, hb, e => by
    obtain ⟨n1, n2⟩ := List.nodup_cons.mp nd
    unfold two two1 at h
    cases hf : ss.find? fun b => decide (T s = T b) with
    | some z => rw [hf] at h; cases h
    | none =>
      rw [hf] at h
      have hn := List.find?_eq_none.mp hf
      rcases List.mem_cons.mp ha with ha' | ha' <;> rcases List.mem_cons.mp hb with hb' | hb'
      · rw [ha', hb']
      · subst ha'; exact absurd e (by simpa using hn b hb')
      · subst hb'; exact absurd e.symm (by simpa using hn a ha')
      · exact two_none h n2 a ha' b hb' e
theorem len_le {α : Type} [DecidableEq α] : ∀ {l1 l2 : List α}, l1.Nodup → (∀ x ∈ l1, x ∈ l2) → l1.length ≤ l2.length
  | [], _, _, _ => Nat.zero_le _
  | a :: l1, l2, nd, sub => by
    obtain ⟨n1, n2⟩ := List.nodup_cons.mp nd
    have ha := sub a List.mem_cons_self
    have := len_le (l2 := l2.erase a) n2 fun x hx => (List.mem_erase_of_ne (by rintro rfl; exact n1 hx)).mpr (sub x (List.mem_cons_of_mem _ hx))
    rw [List.length_erase_of_mem ha] at this
    have hp := List.length_pos_of_mem ha
    rw [List.length_cons]
    omega
theorem pigeon {T : List Int → List Int} : ∀ {ss : List (List Int)}, ss.Nodup → (∀ a ∈ ss, T a ∈ ss) → (∀ a ∈ ss, ∀ b ∈ ss, T a = T b → a = b) → ∀ s ∈ ss, ∃ a ∈ ss, T a = s := by
  intro ss nd hm inj s hs
  have nd2 : (ss.map T).Nodup := by
    rw [List.Nodup, List.pairwise_map]
    exact List.Pairwise.imp_of_mem (fun ha hb hne he => hne (inj _ ha _ hb he)) nd
  have sub : ∀ x ∈ ss.map T, x ∈ ss := fun x hx => by
    obtain ⟨a, ha, rfl⟩ := List.mem_map.mp hx
    exact hm a ha
  have : s ∈ ss.map T := Classical.byContradiction fun hn => by
    have h := len_le (l2 := ss.erase s) nd2 fun x hx => (List.mem_erase_of_ne (by rintro rfl; exact hn hx)).mpr (sub x hx)
    rw [List.length_erase_of_mem hs, List.length_map] at h
    have hp := List.length_pos_of_mem hs
    omega
  obtain ⟨a, ha, e⟩ := List.mem_map.mp this
  exact ⟨a, ha, e⟩
end DD
set_option Elab.async false
set_option linter.all false
set_option maxRecDepth 100000
set_option maxHeartbeats 4000000
/-! P10: undone or two. -/
namespace DD
open PySem
variable {Γ : FEnv}
def leAll (ds : List PyData) : Bool := (List.range ds.length).all fun a => (List.range ds.length).all fun b => PySem.W.dataLe false (fun i => ds.getD i .none) a b || !decide (a < b)
theorem map_getD {α : Type} (d : α) (ds : List α) : (List.range ds.length).map (fun i => ds.getD i d) = ds := by
  apply List.ext_getElem
  · simp
  · intro i h1 h2
    simp [h2]
theorem sortD_id {ds : List PyData} (h : leAll ds = true) : sortD ds = ds := by
  unfold sortD sortIx
  rw [List.mergeSort_of_pairwise, map_getD]
  refine List.Pairwise.imp_of_mem (R := fun a b => a < b) (fun {a b} ha hb hab => ?_) List.pairwise_lt_range
  have := List.all_eq_true.mp (List.all_eq_true.mp h a ha) b hb
  simpa [hab] using this
theorem stD_sort {n : Nat} (h1 : 1 ≤ n) (h5 : n ≤ 5) : sortOk ((stD n).map tI) = true ∧ sortD ((stD n).map tI) = (stD n).map tI := by
  match n, h1, h5 with
  | 1, _, _ => exact ⟨by kernel_rfl, sortD_id (by kernel_rfl)⟩
  | 2, _, _ => exact ⟨by kernel_rfl, sortD_id (by kernel_rfl)⟩
  | 3, _, _ => exact ⟨by kernel_rfl, sortD_id (by kernel_rfl)⟩
  | 4, _, _ => exact ⟨by kernel_rfl, sortD_id (by kernel_rfl)⟩
  | 5, _, _ => exact ⟨by kernel_rfl, sortD_id (by kernel_rfl)⟩
def resTwo (z : List Int × List Int) : PyData := .tuple [.str "two", lI z.1, lI z.2]
theorem cutN (xs : List PyData) {i : Nat} (h : i ≤ xs.length) : cutD xs (some (i : Int)) none = xs.drop i := by
  unfold cutD
  rw [HT.sIx_nat, HT.sIx_none, Nat.min_eq_left h]
  exact List.take_of_length_le (by rw [List.length_drop]; exact Nat.le_refl _)
theorem enumD_zip (ss : List (List Int)) : ∀ k : Nat, enumD k (ss.map tI) = (ss.zipIdx k).map fun z => .tuple [.int (z.2 : Nat), tI z.1] := by
  induction ss with
  | nil => intro k; rfl
  | cons s ss ih =>
    intro k
    show _ :: enumD (k + 1) (ss.map tI) = _
    rw [ih (k + 1)]
    rfl
theorem two_zip {T : List Int → List Int} : ∀ (post pre : List (List Int)), (post.zipIdx pre.length).findSome? (fun z => (two1 T z.1 ((pre ++ post).drop (z.2 + 1))).map fun z => ((.dat (resTwo z), .all) : Vl × Fr)) = (two T post).map fun z => (.dat (resTwo z), .all)
  | [], pre => rfl
  | s :: post, pre => by
    have ih := two_zip (T := T) post (pre ++ [s])
    rw [List.zipIdx_cons, List.findSome?_cons]
    have e : (pre ++ s :: post).drop (pre.length + 1) = post := by
      rw [List.drop_append]
      simp
    rw [e]
    unfold two
    cases two1 T s post with
    | some z => rfl
    | none =>
      dsimp only [Option.map_none]
      rw [List.length_append, List.append_assoc] at ih
      exact ih
theorem sSet_rP {i : Nat} {e : SemE} {Γ : FEnv} {σ : SD} {d : PyData} (h : e Γ σ = .ret (rP d)) : sSet i e Γ σ = .ret (.nx (σ.set i (some ⟨.dat d, .all⟩))) := by
  rw [sSet_of h]
  show M.ret (Out.nx ((demote [] σ).set i _)) = _
  rw [demote_nil]
theorem eOp_of {op : PyData → PyData → Option PyData} {a b : SemE} {x y : R} {d e r : PyData} {Γ : FEnv} {σ : SD} (ha : a Γ σ = .ret x) (hx : x.v = .dat d) (hb : b Γ σ = .ret y) (hy : y.v = .dat e) (ho : op d e = some r) : eOp op a b Γ σ = .ret (rP r) := by
  unfold eOp
  rw [ha, bind_ret, hb, bind_ret, hx, hy]
  dsimp only
  rw [ho]
theorem eVar_pur {i : Nat} {σ : SD} {d : PyData} {m : Fr} (hp : pur d = true) (h : σ[i]? = some (some ⟨.dat d, m⟩)) : eVar i Γ σ = .ret (rP d) := by
  rw [eVar_at h, finV_dat, fin_pur hp]
theorem eIx_dict {a b : SemE} {x : R} {σ : SD} {kvs : List (PyData × PyData)} {k v : List Int} (ha : a Γ σ = .ret x) (hx : x.v = .dat (.dict kvs)) (hb : b Γ σ = .ret (rP (tI k))) (hg : dGet kvs (tI k) = some (tI v)) : eIx a b Γ σ = .ret (rP (tI v)) := by
  refine (eIx_of ha hb).trans ?_
  unfold ixK
  rw [hx]
  dsimp only
  rw [isKeyT_tI, Bool.or_true, if_pos rfl, hg]
  show M.ret (part x (tI v)) = _
  unfold part
  rw [fin_pur (show pur (tI v) = true from pur_iT v)]
theorem eList_tI {e : SemE} {σ : SD} {a : List Int} (h : e Γ σ = .ret (rP (tI a))) : eList e Γ σ = .ret (rP (lI a)) := by
  unfold eList eMon
  rw [h, bind_ret]
  show M.ret (fin (.list (iL a)) [] (subF (rP (tI a)) (.list (iL a)))) = _
  have : subF (rP (tI a)) (.list (iL a)) = .all := by unfold subF; split <;> rfl
  rw [this, fin_all]
  rfl
theorem two1_find {T : List Int → List Int} {a : List Int} : ∀ rest : List (List Int), rest.findSome? (fun b => if T a = T b then some ((.dat (resTwo (a, b)), .all) : Vl × Fr) else none) = (two1 T a rest).map fun z => (.dat (resTwo z), .all)
  | [] => rfl
  | b :: rest => by
    unfold two1
    rw [List.findSome?_cons, List.find?_cons]
    by_cases e : T a = T b
    · rw [if_pos e, decide_eq_true e]; rfl
    · rw [if_neg e, decide_eq_false e]
      exact two1_find rest
theorem iVal_sl {e : SemE} {o : SemO} {x : R} {xs : List PyData} {k : Nat} {σ : SD} (he : e Γ σ = .ret x) (hx : x.v = .dat (.list xs)) (ht : x.t = []) (ho : o Γ σ = .ret (some (k : Int))) (hk : k ≤ xs.length) : iVal (eSl e o oNone) Γ σ = .ret (xs.drop k, []) := by
  have : eSl e o oNone Γ σ = .ret (fin (.list (xs.drop k)) [] (subF x (.list (xs.drop k)))) := by
    unfold eSl
    rw [he, bind_ret, ho, bind_ret]
    show slK x (some (k : Int)) none = _
    unfold slK
    rw [hx]
    dsimp only
    rw [cutN xs hk, ht]
  rw [sq_iVal this (fin_v _ _ _) (.inl rfl)]
  congr 1
  simp [fin]
  split <;> (try split) <;> rfl
theorem lcGo_map2 {α : Type} {p : α → PyData} {g : SemG} {e : SemE} {σ : SD} {V : α → PyData} : ∀ {items : List α}, (∀ x ∈ items, ∃ σ1, g (p x) σ = .ret σ1 ∧ e Γ σ1 = .ret (rP (V x))) → lcGo g tYesD e Γ σ (items.map p) = .ret (items.map fun x => rP (V x))
  | [], _ => rfl
  | x :: xs, h => by
    obtain ⟨σ1, h1, h2⟩ := h x List.mem_cons_self
    have ih := lcGo_map2 (items := xs) fun y hy => h y (List.mem_cons_of_mem _ hy)
    have ht : tYesD Γ σ1 = .ret true := rfl
    show lcGo _ _ _ _ _ (p x :: xs.map p) = _
    unfold lcGo
    rw [h1, bind_ret, ht, bind_ret, if_pos rfl, h2, bind_ret, ih, bind_ret]
    rfl
theorem eLc_map {α : Type} {p : α → PyData} {own : List Nat} {i : SemI} {g : SemG} {e : SemE} {σ : SD} {ct : List Nat} {V : α → PyData} {items : List α} (hi : i Γ σ = .ret (items.map p, ct)) (hl : items.length ≤ 16777216)
    (h : ∀ x ∈ items, ∃ σ1, g (p x) (wipeD (demote ct σ) own) = .ret σ1 ∧ e Γ σ1 = .ret (rP (V x))) : eLc own i g tYesD e Γ σ = .ret (rP (.list (items.map V))) := by
  unfold eLc
  rw [hi, bind_ret]
  dsimp only
  rw [lcGo_map2 h]
  show lcEnd ct _ = _
  unfold lcEnd
  rw [datas_rP V items]
  dsimp only
  rw [if_pos (by rw [List.length_map]; exact hl)]
  have ha : allF (items.map fun x => rP (V x)) = true := by unfold allF; rw [List.all_map]; simp [List.all_eq_true]
  unfold dispF
  rw [if_pos ha, fin_all]
theorem stD_ne (n : Nat) : stD n ≠ [] := by
  induction n with
  | zero => decide
  | succ n ih =>
    intro h
    cases e : stD n with
    | nil => exact ih e
    | cons a r =>
      rw [stD, e] at h
      cases h
def stT (nt : NetT) : List (List Int) := stD nt.length
/-- the answer where no two states run into one -/
def resUn (nt : NetT) (inv : List Int → List Int) : PyData := .tuple [.str "undone", .list ((stT nt).map fun s => lI (inv s))]
theorem sp_undone_or_two {iN iT : Nat} {d : PyData} {nt : NetT} (h1 : 1 ≤ nt.length) (h5 : nt.length ≤ 5) (hN : Γ iN [.dat d] = .ret (.dat (keptN nt), .all)) (hT : Γ iT [.dat (keptN nt)] = .ret (.dat (tabD nt), .all))
    (hst : ∀ s ∈ stT nt, stepN nt s ∈ stT nt) :
    (∃ z, two (stepN nt) (stT nt) = some z ∧ callS (S_undone_or_two iN iT) 1 9 Γ [.dat d] = .ret (.dat (resTwo z), .all)) ∨
    (two (stepN nt) (stT nt) = none ∧ ∃ inv : List Int → List Int, (∀ s ∈ stT nt, inv s ∈ stT nt ∧ stepN nt (inv s) = s) ∧ callS (S_undone_or_two iN iT) 1 9 Γ [.dat d] = .ret (.dat (resUn nt inv), .all)) := by
  let T := stepN nt
  let ss := stT nt
  have hnd : ss.Nodup := stD_nodup h5
  have hlen : ss.length ≤ 32 := stD_len h5
  let kv : List (PyData × PyData) := ss.map fun s => (tI s, tI (T s))
  have htab : tabD nt = .dict kv := rfl
  have hg : ∀ s ∈ ss, dGet kv (tI s) = some (tI (T s)) := fun s hs => dGet_tI (f := fun x => x) hs fun _ _ _ _ e => e
  let σ1 : SD := [some ⟨.dat d, .no⟩, some ⟨.dat (keptN nt), .all⟩, none, none, none, none, none, none, none]
  let σ2 : SD := [some ⟨.dat d, .no⟩, some ⟨.dat (keptN nt), .all⟩, some ⟨.dat (.dict kv), .all⟩, none, none, none, none, none, none]
  let σ3 : SD := [some ⟨.dat d, .no⟩, some ⟨.dat (keptN nt), .all⟩, some ⟨.dat (.dict kv), .all⟩, some ⟨.dat (.list (ss.map tI)), .all⟩, none, none, none, none, none]
  let σL : Option Sl → Option Sl → Option Sl → SD := fun a b c => [some ⟨.dat d, .no⟩, some ⟨.dat (keptN nt), .all⟩, some ⟨.dat (.dict kv), .all⟩, some ⟨.dat (.list (ss.map tI)), .no⟩, a, b, c, none, none]
  have c1 : sSet 1 (eCall iN (aCons (eVar 0) aNil)) Γ (startN 9 [.dat d]) = .ret (.nx σ1) := by
    rw [sSet_rP (d := keptN nt) (by
      rw [eCall_of (rs := [finV (.dat d) [] .no]) (z := (.dat (keptN nt), .all)) (by unfold aCons aNil; rw [eVar_at (s := ⟨.dat d, .no⟩) rfl]; rfl) (by simp [hN]), finV_dat, fin_all])]
    rfl
  have c2 : sSet 2 (eCall iT (aCons (eVar 1) aNil)) Γ σ1 = .ret (.nx σ2) := by
    rw [sSet_rP (d := tabD nt) (by
      rw [eCall_of (rs := [rP (keptN nt)]) (z := (.dat (tabD nt), .all)) (by unfold aCons aNil; rw [eVar_pur (pur_keptN nt) rfl]; rfl) (by simp [hT]), finV_dat, fin_all])]
    rfl
  have c3 : sSet 3 (eSorted2 (eVar 2)) Γ σ2 = .ret (.nx σ3) := by
    rw [sSet_rP (d := .list (ss.map tI)) (by
      unfold eSorted2 eMon
      rw [eVar_at (s := ⟨.dat (.dict kv), .all⟩) rfl, bind_ret, finV_dat]
      unfold sortedK2
      rw [fin_v]
      dsimp only
      have hk : kv.map (·.1) = ss.map tI := by rw [List.map_map]; rfl
      have hs : sortOk (ss.map tI) = true ∧ sortD (ss.map tI) = ss.map tI := stD_sort h1 h5
      have hke : (ss.map tI).all isKeyT = true := by rw [List.all_map]; exact List.all_eq_true.mpr fun s _ => isKeyT_tI s
      have hne : kv.isEmpty = false := by
        rw [List.isEmpty_eq_false_iff]
        intro e
        have := List.map_eq_nil_iff.mp e
        exact stD_ne nt.length this
      rw [hk, hs.1, hs.2, hke, hne]
      have : kv.length ≤ 16777216 := by rw [List.length_map]; omega
      simp [this, fin_all])]
    rfl
  -- the inner loop's step
  have inner : ∀ (x4 : Option Sl) (a : List Int) (rest : List (List Int)) (x6 : Option Sl), a ∈ ss → (∀ b ∈ rest, b ∈ ss) → ∀ σ, (∃ x6, σ = σL x4 (some ⟨.dat (tI a), .all⟩) x6) →
      (rest.findSome? (fun b => if T a = T b then some ((.dat (resTwo (a, b)), .all) : Vl × Fr) else none) = none ∧ ∃ σ2, forGo (gSlot 6) (sSeq (sIf (tVal (eOp oEq (eIx (eVar 2) (eVar 5)) (eIx (eVar 2) (eVar 6)))) (sSeq (sRet (eTup (aCons (eC (.str "two")) (aCons (eList (eVar 5)) (aCons (eList (eVar 6)) aNil))))) sNil) sNil) sNil) Γ (rest.map tI) σ = .ret (.nx σ2) ∧ ∃ x6, σ2 = σL x4 (some ⟨.dat (tI a), .all⟩) x6) ∨
      ∃ z σ2, rest.findSome? (fun b => if T a = T b then some ((.dat (resTwo (a, b)), .all) : Vl × Fr) else none) = some z ∧ forGo (gSlot 6) (sSeq (sIf (tVal (eOp oEq (eIx (eVar 2) (eVar 5)) (eIx (eVar 2) (eVar 6)))) (sSeq (sRet (eTup (aCons (eC (.str "two")) (aCons (eList (eVar 5)) (aCons (eList (eVar 6)) aNil))))) sNil) sNil) sNil) Γ (rest.map tI) σ = .ret (.rt z.1 z.2 σ2) := by
    intro x4 a rest x6 ha hr σ hσ
    refine forGo_search (I := fun σ => ∃ x6, σ = σL x4 (some ⟨.dat (tI a), .all⟩) x6) (P := fun b => if T a = T b then some ((.dat (resTwo (a, b)), .all) : Vl × Fr) else none) hσ fun b hb σ hI => ?_
    obtain ⟨y6, rfl⟩ := hI
    have hpb : pur (tI b) = true := pur_iT b
    have hpa : pur (tI a) = true := pur_iT a
    have e5 : eVar 5 Γ (σL x4 (some ⟨.dat (tI a), .all⟩) (some ⟨.dat (tI b), .all⟩)) = .ret (rP (tI a)) := eVar_pur hpa rfl
    have e6 : eVar 6 Γ (σL x4 (some ⟨.dat (tI a), .all⟩) (some ⟨.dat (tI b), .all⟩)) = .ret (rP (tI b)) := eVar_pur hpb rfl
    have e2 : eVar 2 Γ (σL x4 (some ⟨.dat (tI a), .all⟩) (some ⟨.dat (tI b), .all⟩)) = .ret (finV (.dat (.dict kv)) [2] .no) := eVar_at (s := ⟨.dat (.dict kv), .all⟩) rfl
    have i5 := eIx_dict e2 (by rw [finV_dat, fin_v]) e5 (hg a ha)
    have i6 := eIx_dict e2 (by rw [finV_dat, fin_v]) e6 (hg b (hr b hb))
    have cq := eOp_of i5 rfl i6 rfl (oEq_tI (T a) (T b))
    have ct : tVal (eOp oEq (eIx (eVar 2) (eVar 5)) (eIx (eVar 2) (eVar 6))) Γ (σL x4 (some ⟨.dat (tI a), .all⟩) (some ⟨.dat (tI b), .all⟩)) = .ret (decide (T a = T b)) := by
      unfold tVal
      rw [cq]
      rfl
    refine ⟨σL x4 (some ⟨.dat (tI a), .all⟩) (some ⟨.dat (tI b), .all⟩), by unfold gSlot; rw [hpb]; rfl, ?_⟩
    by_cases e : T a = T b
    · rw [if_pos e]
      have er : eTup (aCons (eC (.str "two")) (aCons (eList (eVar 5)) (aCons (eList (eVar 6)) aNil))) Γ (σL x4 (some ⟨.dat (tI a), .all⟩) (some ⟨.dat (tI b), .all⟩)) = .ret (rP (resTwo (a, b))) := by
        unfold eTup aCons aNil
        rw [eList_tI e5, eList_tI e6]
        simp only [eC, bind_ret]
        show M.ret (fin (.tuple [.str "two", lI a, lI b]) _ .all) = _
        rw [fin_all]
        rfl
      have q : sIf (tVal (eOp oEq (eIx (eVar 2) (eVar 5)) (eIx (eVar 2) (eVar 6)))) (sSeq (sRet (eTup (aCons (eC (.str "two")) (aCons (eList (eVar 5)) (aCons (eList (eVar 6)) aNil))))) sNil) sNil Γ (σL x4 (some ⟨.dat (tI a), .all⟩) (some ⟨.dat (tI b), .all⟩)) = .ret (.rt (.dat (resTwo (a, b))) .all (demote [] (σL x4 (some ⟨.dat (tI a), .all⟩) (some ⟨.dat (tI b), .all⟩)))) := by
        rw [sIf_of ct, if_pos (decide_eq_true e)]
        exact sSeq_rt (sRet_of er)
      exact .inr ⟨((.dat (resTwo (a, b)), .all) : Vl × Fr), _, rfl, sSeq_rt q⟩
    · rw [if_neg e]
      refine .inl ⟨rfl, σL x4 (some ⟨.dat (tI a), .all⟩) (some ⟨.dat (tI b), .all⟩), ?_, some ⟨.dat (tI b), .all⟩, rfl⟩
      rw [sSeq_nx (σ' := σL x4 (some ⟨.dat (tI a), .all⟩) (some ⟨.dat (tI b), .all⟩)) (by rw [sIf_of ct, if_neg (by simpa using e)]; rfl)]
      rfl
  have outer := forGo_search (Γ := Γ) (p := fun z : List Int × Nat => .tuple [.int (z.2 : Nat), tI z.1]) (g := gTup [gSlot 4, gSlot 5]) (b := sSeq (sFor (iVal (eSl (eVar 3) (oSome (eAdd (eVar 4) (eC (.int 1)))) oNone)) (gSlot 6) (sSeq (sIf (tVal (eOp oEq (eIx (eVar 2) (eVar 5)) (eIx (eVar 2) (eVar 6)))) (sSeq (sRet (eTup (aCons (eC (.str "two")) (aCons (eList (eVar 5)) (aCons (eList (eVar 6)) aNil))))) sNil) sNil) sNil)) sNil)
    (I := fun σ => ∃ a b c, σ = σL a b c) (P := fun z => (two1 T z.1 (ss.drop (z.2 + 1))).map fun z => ((.dat (resTwo z), .all) : Vl × Fr)) (items := ss.zipIdx 0) (σ := σL none none none) ⟨_, _, _, rfl⟩ fun z hz σ hI => by
      obtain ⟨a4, a5, a6, rfl⟩ := hI
      obtain ⟨a, k⟩ := z
      have hz2 : ss[k]? = some a := by
        have := List.mem_zipIdx_iff_getElem?.mp hz
        simpa using this
      obtain ⟨hk, hka⟩ := List.getElem?_eq_some_iff.mp hz2
      have ha : a ∈ ss := hka ▸ List.getElem_mem hk
      have hpa : pur (tI a) = true := pur_iT a
      refine ⟨σL (some ⟨.dat (.int k), .all⟩) (some ⟨.dat (tI a), .all⟩) a6, ?_, ?_⟩
      · show M.ret ((((σL a4 a5 a6).set 4 (some ⟨.dat (.int k), .all⟩)).set 5 (some ⟨.dat (tI a), if pur (tI a) then .all else .no⟩))) = _
        rw [hpa]
        rfl
      · have e3 : eVar 3 Γ (σL (some ⟨.dat (.int k), .all⟩) (some ⟨.dat (tI a), .all⟩) a6) = .ret (finV (.dat (.list (ss.map tI))) [] .no) := eVar_at (s := ⟨.dat (.list (ss.map tI)), .no⟩) rfl
        have eo : oSome (eAdd (eVar 4) (eC (.int 1))) Γ (σL (some ⟨.dat (.int k), .all⟩) (some ⟨.dat (tI a), .all⟩) a6) = .ret (some ((k + 1 : Nat) : Int)) := by
          unfold oSome eAdd eBin
          rw [eVar_at (s := ⟨.dat (.int k), .all⟩) rfl]
          rfl
        have ht : (finV (.dat (.list (ss.map tI))) [] .no).t = [] := by
          rw [finV_dat]; unfold fin; split <;> rfl
        have it := iVal_sl e3 (by rw [finV_dat, fin_v]) ht eo (by rw [List.length_map]; exact hk)
        rw [← List.map_drop] at it
        have inn := inner (some ⟨.dat (.int k), .all⟩) a (ss.drop (k + 1)) a6 ha (fun b hb => List.mem_of_mem_drop hb) _ ⟨a6, rfl⟩
        rw [two1_find] at inn
        have fe : ∀ o, forGo (gSlot 6) (sSeq (sIf (tVal (eOp oEq (eIx (eVar 2) (eVar 5)) (eIx (eVar 2) (eVar 6)))) (sSeq (sRet (eTup (aCons (eC (.str "two")) (aCons (eList (eVar 5)) (aCons (eList (eVar 6)) aNil))))) sNil) sNil) sNil) Γ ((ss.drop (k + 1)).map tI) (σL (some ⟨.dat (.int k), .all⟩) (some ⟨.dat (tI a), .all⟩) a6) = o → sFor (iVal (eSl (eVar 3) (oSome (eAdd (eVar 4) (eC (.int 1)))) oNone)) (gSlot 6) (sSeq (sIf (tVal (eOp oEq (eIx (eVar 2) (eVar 5)) (eIx (eVar 2) (eVar 6)))) (sSeq (sRet (eTup (aCons (eC (.str "two")) (aCons (eList (eVar 5)) (aCons (eList (eVar 6)) aNil))))) sNil) sNil) sNil) Γ (σL (some ⟨.dat (.int k), .all⟩) (some ⟨.dat (tI a), .all⟩) a6) = o := fun o ho => by
          unfold sFor
          rw [it, bind_ret]
          dsimp only
          rw [demote_nil]
          exact ho
        rcases inn with ⟨q1, σ2, q2, x6, rfl⟩ | ⟨z, σ2, q1, q2⟩
        · exact .inl ⟨q1, _, (sSeq_nx (fe _ q2)).trans rfl, _, _, _, rfl⟩
        · exact .inr ⟨z, σ2, q1, sSeq_rt (fe _ q2)⟩
  have hz := two_zip (T := T) ss []
  rw [List.nil_append, List.length_nil] at hz
  rw [hz, ← enumD_zip ss 0] at outer
  have hpl : ∀ {σ : SD}, σ = σ3 → iEnum (eVar 3) Γ σ = .ret (enumD 0 (ss.map tI), if pur (.list (ss.map tI)) then [] else [3]) := by
    rintro σ rfl
    unfold iEnum
    rw [eVar_at (s := ⟨.dat (.list (ss.map tI)), .all⟩) rfl, bind_ret, finV_dat, fin_v]
    dsimp only
    congr 2
  have hnp : pur (.list (ss.map tI)) = false := rfl
  have f3 : ∀ o, forGo (gTup [gSlot 4, gSlot 5]) (sSeq (sFor (iVal (eSl (eVar 3) (oSome (eAdd (eVar 4) (eC (.int 1)))) oNone)) (gSlot 6) (sSeq (sIf (tVal (eOp oEq (eIx (eVar 2) (eVar 5)) (eIx (eVar 2) (eVar 6)))) (sSeq (sRet (eTup (aCons (eC (.str "two")) (aCons (eList (eVar 5)) (aCons (eList (eVar 6)) aNil))))) sNil) sNil) sNil)) sNil) Γ (enumD 0 (ss.map tI)) (σL none none none) = o →
      sFor (iEnum (eVar 3)) (gTup [gSlot 4, gSlot 5]) (sSeq (sFor (iVal (eSl (eVar 3) (oSome (eAdd (eVar 4) (eC (.int 1)))) oNone)) (gSlot 6) (sSeq (sIf (tVal (eOp oEq (eIx (eVar 2) (eVar 5)) (eIx (eVar 2) (eVar 6)))) (sSeq (sRet (eTup (aCons (eC (.str "two")) (aCons (eList (eVar 5)) (aCons (eList (eVar 6)) aNil))))) sNil) sNil) sNil)) sNil) Γ σ3 = o := fun o ho => by
    unfold sFor
    rw [hpl rfl, hnp, bind_ret]
    exact ho
  rcases outer with ⟨q1, σ4, q2, a4, a5, a6, rfl⟩ | ⟨z, σ4, q1, q2⟩
  · have hn : two T ss = none := by
      cases e : two T ss with
      | none => rfl
      | some z => rw [e] at q1; cases q1
    have inj := two_none hn hnd
    have pg := pigeon hnd hst inj
    let inv : List Int → List Int := fun s => if h : s ∈ ss then Classical.choose (pg s h) else []
    have hinv : ∀ s ∈ ss, inv s ∈ ss ∧ T (inv s) = s := fun s h => by
      have e : inv s = Classical.choose (pg s h) := dif_pos h
      rw [e]
      exact Classical.choose_spec (pg s h)
    refine .inr ⟨hn, inv, hinv, ?_⟩
    let kv2 : List (PyData × PyData) := ss.map fun s => (tI (T s), tI s)
    let σ7 : SD := [some ⟨.dat d, .no⟩, some ⟨.dat (keptN nt), .all⟩, some ⟨.dat (.dict kv), .all⟩, some ⟨.dat (.list (ss.map tI)), .no⟩, a4, a5, a6, some ⟨.dat (.dict kv2), .all⟩, none]
    have nd2 : (ss.map T).Nodup := by
      rw [List.Nodup, List.pairwise_map]
      exact List.Pairwise.imp_of_mem (fun ha hb hne he => hne (inj _ ha _ hb he)) hnd
    have ct0 : (finV (.dat (.list (ss.map tI))) [] .no).t = [] := by
      rw [finV_dat]; unfold fin; split <;> rfl
    have it : ∀ {σ : SD}, σ[3]? = some (some ⟨.dat (.list (ss.map tI)), .no⟩) → iVal (eVar 3) Γ σ = .ret (ss.map tI, []) := fun h => by
      rw [sq_iVal (eVar_at h) (by rw [finV_dat, fin_v]) (.inl rfl)]
      congr 2
    have c7 : sSet 7 (eDc [8] (iVal (eVar 3)) (gSlot 8) tYesD (eIx (eVar 2) (eVar 8)) (eVar 8)) Γ (σL a4 a5 a6) = .ret (.nx σ7) := by
      rw [sSet_rP (d := .dict kv2) (eDc_of (K := fun s => tI (T s)) (V := tI) (it rfl) (by omega) (stD_ne' _) (by
        have := keysOk_tI nd2
        rw [List.map_map] at this
        exact this) fun s hs => by
          have hp : pur (tI s) = true := pur_iT s
          refine ⟨isKeyT_tI _, [some ⟨.dat d, .no⟩, some ⟨.dat (keptN nt), .all⟩, some ⟨.dat (.dict kv), .all⟩, some ⟨.dat (.list (ss.map tI)), .no⟩, a4, a5, a6, none, some ⟨.dat (tI s), .all⟩], rP (tI (T s)), ?_, ?_, rfl, ?_⟩
          · rw [demote_nil]; unfold gSlot; rw [hp]; rfl
          · exact eIx_dict (eVar_at (s := ⟨.dat (.dict kv), .all⟩) rfl) (by rw [finV_dat, fin_v]) (eVar_pur hp rfl) (hg s hs)
          · exact eVar_pur hp rfl)]
      rfl
    have el : eLc [8] (iVal (eVar 3)) (gSlot 8) tYesD (eList (eIx (eVar 7) (eVar 8))) Γ σ7 = .ret (rP (.list (ss.map fun s => lI (inv s)))) := by
      refine eLc_map (V := fun s => lI (inv s)) (it rfl) (by omega) fun s hs => ?_
      have hp : pur (tI s) = true := pur_iT s
      refine ⟨[some ⟨.dat d, .no⟩, some ⟨.dat (keptN nt), .all⟩, some ⟨.dat (.dict kv), .all⟩, some ⟨.dat (.list (ss.map tI)), .no⟩, a4, a5, a6, some ⟨.dat (.dict kv2), .all⟩, some ⟨.dat (tI s), .all⟩], ?_, ?_⟩
      · rw [demote_nil]; unfold gSlot; rw [hp]; rfl
      · have hgi := dGet_tI (f := T) (g := fun x => x) (hinv s hs).1 inj
        rw [(hinv s hs).2] at hgi
        exact eList_tI (eIx_dict (eVar_at (s := ⟨.dat (.dict kv2), .all⟩) rfl) (by rw [finV_dat, fin_v]) (eVar_pur hp rfl) hgi)
    have er : eTup (aCons (eC (.str "undone")) (aCons (eLc [8] (iVal (eVar 3)) (gSlot 8) tYesD (eList (eIx (eVar 7) (eVar 8)))) aNil)) Γ σ7 = .ret (rP (resUn nt inv)) := by
      unfold eTup aCons aNil
      rw [el]
      simp only [eC, bind_ret]
      show M.ret (fin (.tuple [.str "undone", .list (ss.map fun s => lI (inv s))]) _ .all) = _
      rw [fin_all]
      rfl
    exact call_rt rfl ((sSeq_nx c1).trans ((sSeq_nx c2).trans ((sSeq_nx c3).trans ((sSeq_nx (f3 _ q2)).trans ((sSeq_nx c7).trans (sSeq_rt (sRet_of er)))))))
  · cases e : two T ss with
    | none => rw [e] at q1; cases q1
    | some w =>
      rw [e] at q1
      cases q1
      exact .inl ⟨w, rfl, call_rt rfl ((sSeq_nx c1).trans ((sSeq_nx c2).trans ((sSeq_nx c3).trans (sSeq_rt (f3 _ q2)))))⟩
end DD
set_option Elab.async false
set_option linter.all false
set_option maxRecDepth 100000
set_option maxHeartbeats 4000000
/-! P11: states are the bit rows; a kept net steps from state to state. -/
namespace DD
open PySem
theorem snocInd {α : Type} {P : List α → Prop} (h0 : P []) (h1 : ∀ s b, P s → P (s ++ [b])) : ∀ s, P s := fun s => by
  have : ∀ r : List α, P r.reverse := by
    intro r
    induction r with
    | nil => exact h0
    | cons a r ih => rw [List.reverse_cons]; exact h1 _ _ ih
  have := this s.reverse
  rwa [List.reverse_reverse] at this
def Bits (s : List Int) : Prop := ∀ x ∈ s, x = 0 ∨ x = 1
theorem stD_mem : ∀ {n : Nat} {s : List Int}, s ∈ stD n ↔ s.length = n ∧ Bits s
  | 0, s => by
    constructor
    · intro h
      have : s = [] := by simpa [stD] using h
      subst this
      exact ⟨rfl, fun x hx => nomatch hx⟩
    · rintro ⟨h, _⟩
      have : s = [] := List.length_eq_zero_iff.mp h
      subst this
      simp [stD]
  | n + 1, s => by
    constructor
    · intro h
      obtain ⟨t, ht, hs⟩ := List.mem_flatMap.mp h
      obtain ⟨h1, h2⟩ := stD_mem.mp ht
      have : ∃ b : Int, (b = 0 ∨ b = 1) ∧ s = t ++ [b] := by
        rcases List.mem_cons.mp hs with rfl | hs
        · exact ⟨0, .inl rfl, rfl⟩
        · exact ⟨1, .inr rfl, List.mem_singleton.mp hs⟩
      obtain ⟨b, hb, rfl⟩ := this
      refine ⟨by simp [h1], fun x hx => ?_⟩
      rcases List.mem_append.mp hx with hx | hx
      · exact h2 x hx
      · rw [List.mem_singleton.mp hx]; exact hb
    · rintro ⟨h1, h2⟩
      have hne : s ≠ [] := by rintro rfl; cases h1
      have e := List.dropLast_concat_getLast hne
      refine List.mem_flatMap.mpr ⟨s.dropLast, stD_mem.mpr ⟨by simp [h1], fun x hx => h2 x (by rw [← e]; exact List.mem_append_left _ hx)⟩, ?_⟩
      rcases h2 _ (List.getLast_mem hne) with hb | hb
      · rw [hb] at e; rw [← e]; simp
      · rw [hb] at e; rw [← e]; simp
theorem numD_bits : ∀ (s : List Int), Bits s → 0 ≤ numD s ∧ numD s < 2 ^ s.length := by
  refine snocInd (fun _ => ⟨by decide, by decide⟩) ?_
  · intro s b ih h
    obtain ⟨h1, h2⟩ := ih fun x hx => h x (List.mem_append_left _ hx)
    rw [numD_snoc, List.length_append, List.length_singleton, Int.pow_succ]
    rcases h b (List.mem_append_right _ List.mem_cons_self) with rfl | rfl <;> omega
theorem stepOk_of {nt : NetT} (wf : WfN nt) {s : List Int} (hs : s ∈ stD nt.length) {m : List Int × List Int} (hm : m ∈ nt) : StepOk m s := by
  obtain ⟨_, w2, w3⟩ := wf
  obtain ⟨⟨o1, o2, o3⟩, o4, o5⟩ := w3 m hm
  obtain ⟨l, bs⟩ := stD_mem.mp hs
  have hh : ∀ h ∈ m.1, 0 ≤ h ∧ h < s.length := fun h hh => by
    have := List.all_eq_true.mp o2 h hh
    simp only [Bool.and_eq_true, decide_eq_true_eq] at this
    rw [l]; exact this
  have hb : Bits (m.1.map fun h => s.getD h.toNat 0) := fun x hx => by
    obtain ⟨h, h1, rfl⟩ := List.mem_map.mp hx
    obtain ⟨a, b⟩ := hh h h1
    have hi : h.toNat < s.length := by omega
    rw [List.getD_eq_getElem?_getD, List.getElem?_eq_getElem hi]
    exact bs _ (List.getElem_mem hi)
  obtain ⟨n1, n2⟩ := numD_bits _ hb
  rw [List.length_map] at n2
  refine ⟨hh, n1, ?_, by omega⟩
  rw [o4]
  simpa using n2
theorem step_mem {nt : NetT} (wf : WfN nt) {s : List Int} (hs : s ∈ stD nt.length) : stepN nt s ∈ stD nt.length := by
  refine stD_mem.mpr ⟨by unfold stepN; simp, fun x hx => ?_⟩
  obtain ⟨m, hm, rfl⟩ := List.mem_map.mp hx
  obtain ⟨_, n1, n2, _⟩ := stepOk_of wf hs hm
  obtain ⟨_, o4, o5⟩ := wf.2.2 m hm
  unfold valD
  have hi : (numD (m.1.map fun h => s.getD h.toNat 0)).toNat < m.2.length := by omega
  rw [List.getD_eq_getElem?_getD, List.getElem?_eq_getElem hi]
  have := List.all_eq_true.mp o5 _ (List.getElem_mem hi)
  simp only [Bool.and_eq_true, decide_eq_true_eq] at this
  show m.2[_] = 0 ∨ m.2[_] = 1
  omega
end DD
set_option Elab.async false
set_option linter.all false
set_option maxRecDepth 100000
set_option maxHeartbeats 4000000
/-! P12: the law's own defs: same. -/
namespace DD
open PySem
variable {Γ : FEnv} {σ : SD}
theorem eUn_of {op : PyData → Option PyData} {a : SemE} {x : R} {d r : PyData} (ha : a Γ σ = .ret x) (hx : x.v = .dat d) (ho : op d = some r) : eUn op a Γ σ = .ret (rP r) := by
  unfold eUn
  rw [ha, bind_ret, hx]
  dsimp only
  rw [ho]
theorem eIsi_of {a : SemE} {x : R} {d : PyData} {ts : List Ty} (ha : a Γ σ = .ret x) (hx : x.v = .dat d) : eIsi a ts Γ σ = .ret (rP (.bool (ts.any (isTy d)))) := eUn_of ha hx rfl
theorem tVal_bool {a : SemE} {c : Bool} (ha : a Γ σ = .ret (rP (.bool c))) : tVal a Γ σ = .ret c := by
  unfold tVal
  rw [ha]
  rfl
theorem tOr_ff {a b : SemT} {c : Bool} (ha : a Γ σ = .ret false) (hb : b Γ σ = .ret c) : tOr a b Γ σ = .ret c := by
  unfold tOr
  rw [ha, bind_ret, if_neg (by simp), hb]
theorem tNot_of {a : SemT} {c : Bool} (ha : a Γ σ = .ret c) : tNot a Γ σ = .ret (!c) := by
  unfold tNot
  rw [ha]
  rfl
theorem eAnd_tt {a b : SemE} {r : R} (ha : a Γ σ = .ret (rP (.bool true))) (hb : b Γ σ = .ret r) : eAnd a b Γ σ = .ret r := by
  unfold eAnd
  rw [ha, bind_ret]
  exact hb
theorem oNe_bool (b : Bool) : oNe (.bool b) (.bool b) = some (.bool false) := by cases b <;> rfl
theorem noX_up {α : Type} {Q : Nat → α → Prop} {E : Nat → XV → Prop} : ∀ (m : M α) (b : Nat), wpB b m Q (fun _ _ => False) → wpB b (noX m) Q E
  | .ret a, b, h => h
  | .fail, b, h => h
  | .exc x, b, h => h
  | .draw n k, b, h => by
    obtain ⟨b', e, h0, h1, h2⟩ := h
    exact ⟨b', e, h0, h1, fun i hi => noX_up (k i) b' (h2 i hi)⟩
theorem Wp.noX {α : Type} {c : Nat} {Q : α → Prop} {m : M α} (h : Wp c m Q) : Wp c (DD.noX m) Q := .mk fun b hb => noX_up _ _ (h.of b hb)
end DD
set_option Elab.async false
set_option linter.all false
set_option maxRecDepth 100000
set_option maxHeartbeats 4000000
/-! P13: _law_same of a datum with itself. -/
namespace DD
open PySem
variable {Γ : FEnv} {σ : SD}
theorem zip_self {α : Type} : ∀ xs : List α, xs.zip xs = xs.map fun x => (x, x)
  | [] => rfl
  | x :: xs => by rw [List.zip_cons_cons, zip_self xs]; rfl
theorem sp_same_seq {i : Nat} {d : PyData} {xs : List PyData} (hs : Sq d xs) (hl : xs.length ≤ 16777216) (h : ∀ x ∈ xs, Γ i [.dat x, .dat x] = .ret (.dat (.bool true), .all)) : callS (S__law_same i) 2 4 Γ [.dat d, .dat d] = .ret (.dat (.bool true), .all) := by
  let σ0 : SD := startN 4 [.dat d, .dat d]
  have e0 : eVar 0 Γ σ0 = .ret (finV (.dat d) [] .no) := eVar_at (s := ⟨.dat d, .no⟩) rfl
  have e1 : eVar 1 Γ σ0 = .ret (finV (.dat d) [] .no) := eVar_at (s := ⟨.dat d, .no⟩) rfl
  have v : (finV (.dat d) [] .no).v = .dat d := by rw [finV_dat, fin_v]
  have t0 : (finV (.dat d) [] .no).t = [] := by rw [finV_dat]; unfold fin; split <;> rfl
  have c1 : tVal (eIsi (eVar 1) [.list, .tuple]) Γ σ0 = .ret true := by
    have := tVal_bool (eIsi_of (ts := [.list, .tuple]) e1 v)
    rw [this]
    rcases hs with rfl | rfl <;> rfl
  have n1 : ∀ ts, tVal (eOp oNe (eIsi (eVar 0) ts) (eIsi (eVar 1) ts)) Γ σ0 = .ret false := fun ts =>
    tVal_bool (eOp_of (eIsi_of e0 v) rfl (eIsi_of e1 v) rfl (oNe_bool _))
  have le : eOp oEq (eLen (eVar 0)) (eLen (eVar 1)) Γ σ0 = .ret (rP (.bool true)) := by
    have := eOp_of (sq_len e0 v hs) rfl (sq_len e1 v hs) rfl (oEq_int _ _)
    rw [this]
    simp
  have it : iZip (eVar 0) (eVar 1) Γ σ0 = .ret (xs.map fun x => pairD (x, x), []) := by
    unfold iZip
    rw [e0, bind_ret, e1, bind_ret, v, t0]
    rcases hs with rfl | rfl <;> (dsimp only; rw [zip_self, List.map_map]; rfl)
  have el : eLc [2, 3] (iZip (eVar 0) (eVar 1)) (gTup [gSlot 2, gSlot 3]) tYesD (eCall i (aCons (eVar 2) (aCons (eVar 3) aNil))) Γ σ0 = .ret (rP (.list (xs.map fun _ => .bool true))) := by
    refine eLc_map (V := fun _ => .bool true) it hl fun x hx => ?_
    let m : Fr := if pur x then .all else .no
    refine ⟨[some ⟨.dat d, .no⟩, some ⟨.dat d, .no⟩, some ⟨.dat x, m⟩, some ⟨.dat x, m⟩], by rw [demote_nil]; rfl, ?_⟩
    have a2 := eVar_at (Γ := Γ) (σ := [some ⟨.dat d, .no⟩, some ⟨.dat d, .no⟩, some ⟨.dat x, m⟩, some ⟨.dat x, m⟩]) (i := 2) (s := ⟨.dat x, m⟩) rfl
    have a3 := eVar_at (Γ := Γ) (σ := [some ⟨.dat d, .no⟩, some ⟨.dat d, .no⟩, some ⟨.dat x, m⟩, some ⟨.dat x, m⟩]) (i := 3) (s := ⟨.dat x, m⟩) rfl
    rw [eCall_of (rs := [finV (.dat x) (if m = .no then [] else [2]) .no, finV (.dat x) (if m = .no then [] else [3]) .no]) (z := (.dat (.bool true), .all)) (by unfold aCons aNil; rw [a2, a3]; rfl) (by
      show Γ i [(finV (.dat x) _ _).v, (finV (.dat x) _ _).v] = _
      rw [finV_dat, fin_v, finV_dat, fin_v]
      exact h x hx), finV_dat, fin_all]
  have ea := eAll_of (q := fun _ => true) el
  have hall : xs.all (fun _ => true) = true := by simp
  rw [hall] at ea
  have c2 : tOr (tVal (eOp oNe (eIsi (eVar 0) [.list]) (eIsi (eVar 1) [.list]))) (tVal (eOp oNe (eIsi (eVar 0) [.tuple]) (eIsi (eVar 1) [.tuple]))) Γ σ0 = .ret false := tOr_ff (n1 _) (n1 _)
  refine call_rt (σ := demote [] σ0) rfl ?_
  refine sSeq_rt ?_
  rw [sIf_of c1, if_pos rfl]
  refine (sSeq_nx (σ' := σ0) (by rw [sIf_of c2, if_neg (by simp)]; rfl)).trans ?_
  exact sSeq_rt (sRet_of (eAnd_tt le ea))
end DD
set_option Elab.async false
set_option linter.all false
set_option maxRecDepth 100000
set_option maxHeartbeats 4000000
/-! P14: _law_same of a leaf with itself. -/
namespace DD
open PySem
variable {Γ : FEnv} {σ : SD}
theorem sIf_ff {t : SemT} {a : SemS} (h : t Γ σ = .ret false) : sIf t a sNil Γ σ = .ret (.nx σ) := by
  rw [sIf_of h, if_neg (by simp)]
  rfl
theorem sp_same_leaf {i : Nat} {d : PyData} (h1 : [Ty.list, Ty.tuple].any (isTy d) = false) (h2 : [Ty.dict].any (isTy d) = false) (h3 : [Ty.bool].any (isTy d) = false) (h4 : oIsN d .none = some (.bool false)) (h5 : [Ty.list, Ty.tuple, Ty.dict].any (isTy d) = false) (h6 : oEq d d = some (.bool true)) :
    callS (S__law_same i) 2 4 Γ [.dat d, .dat d] = .ret (.dat (.bool true), .all) := by
  let σ0 : SD := startN 4 [.dat d, .dat d]
  have e0 : eVar 0 Γ σ0 = .ret (finV (.dat d) [] .no) := eVar_at (s := ⟨.dat d, .no⟩) rfl
  have e1 : eVar 1 Γ σ0 = .ret (finV (.dat d) [] .no) := eVar_at (s := ⟨.dat d, .no⟩) rfl
  have v : (finV (.dat d) [] .no).v = .dat d := by rw [finV_dat, fin_v]
  have n1 : ∀ ts, tVal (eOp oNe (eIsi (eVar 0) ts) (eIsi (eVar 1) ts)) Γ σ0 = .ret false := fun ts =>
    tVal_bool (eOp_of (eIsi_of e0 v) rfl (eIsi_of e1 v) rfl (oNe_bool _))
  have i0 : ∀ {ts : List Ty}, ts.any (isTy d) = false → tVal (eIsi (eVar 0) ts) Γ σ0 = .ret false := fun {ts} h => by
    have := tVal_bool (eIsi_of (ts := ts) e0 v)
    rwa [h] at this
  have i1 : ∀ {ts : List Ty}, ts.any (isTy d) = false → tVal (eIsi (eVar 1) ts) Γ σ0 = .ret false := fun {ts} h => by
    have := tVal_bool (eIsi_of (ts := ts) e1 v)
    rwa [h] at this
  have o0 : tVal (eOp oIsN (eVar 0) (eC .none)) Γ σ0 = .ret false := tVal_bool (eOp_of e0 v rfl rfl h4)
  have o1 : tVal (eOp oIsN (eVar 1) (eC .none)) Γ σ0 = .ret false := tVal_bool (eOp_of e1 v rfl rfl h4)
  have en : eNot (eIsi (eVar 0) [.list, .tuple, .dict]) Γ σ0 = .ret (rP (.bool true)) := by
    unfold eNot
    rw [eIsi_of e0 v, h5]
    rfl
  have eq : eOp oEq (eVar 0) (eVar 1) Γ σ0 = .ret (rP (.bool true)) := eOp_of e0 v e1 v h6
  exact call_rt (σ := demote [] σ0) rfl ((sSeq_nx (sIf_ff (i1 h1))).trans ((sSeq_nx (sIf_ff (i1 h2))).trans ((sSeq_nx (sIf_ff (tOr_ff (i1 h3) (i0 h3)))).trans ((sSeq_nx (sIf_ff (tOr_ff o1 o0))).trans ((sSeq_nx (sIf_ff (tOr_ff (n1 _) (n1 _)))).trans (sSeq_rt (sRet_of (eAnd_tt en eq))))))))
end DD
set_option Elab.async false
set_option linter.all false
set_option maxRecDepth 100000
set_option maxHeartbeats 4000000
/-! P15: draws: rules for what draws. -/
namespace DD
open PySem
variable {Γ : FEnv} {σ : SD}
theorem same_int {i : Nat} (a : Int) : callS (S__law_same i) 2 4 Γ [.dat (.int a), .dat (.int a)] = .ret (.dat (.bool true), .all) :=
  sp_same_leaf rfl rfl rfl rfl rfl (by rw [oEq_int]; simp)
theorem Wp.retc {α : Type} {c : Nat} {a : α} {Q : α → Prop} (h : Q a) : Wp c (.ret a) Q := (Wp.ret h).mono (Nat.zero_le _) fun _ z => z
theorem Wp.call {c i : Nat} {a : SemA} {rs : List R} {Q : R → Prop} (ha : a Γ σ = .ret rs) (hz : Wp c (Γ i (rs.map (·.v))) fun z => Q (finV z.1 (tsOf rs) z.2)) : Wp c (eCall i a Γ σ) Q := by
  unfold eCall
  rw [ha, bind_ret]
  exact (Wp.bind hz fun z q => Wp.ret q).mono (Nat.le_refl _) fun _ z => z
theorem Wp.drawM {i m : Nat} (hd : ∀ xs, Γ i xs = DD.drawM xs) (h0 : 0 < m) (h1 : m < 1000000) : Wp 1 (Γ i [.strm, .dat (.int m)]) fun z => ∃ j : Nat, j < m ∧ z = (.dat (.int j), .all) := by
  rw [hd]
  show Wp 1 (.draw (m : Int).toNat fun j => .ret ((Vl.dat (.int (j : Nat)), Fr.all))) _
  rw [Int.toNat_natCast]
  exact Wp.draw (c := 0) h0 h1 fun j hj => Wp.ret ⟨j, hj, rfl⟩
theorem Wp.seq {c1 c2 : Nat} {a b : SemS} {Q1 : Out → Prop} {Q : Out → Prop} (h : Wp c1 (a Γ σ) Q1) (k : ∀ o, Q1 o → Wp c2 (seqO Γ b o) Q) : Wp (c1 + c2) (sSeq a b Γ σ) Q := Wp.bind h k
theorem Wp.callS {c np nl : Nat} {S : SemS} {xs : List Vl} {Q : Vl × Fr → Prop} (hl : xs.length = np) (h : Wp c (S Γ (startN nl xs)) fun o => ∃ v f σ', o = .rt v f σ' ∧ Q (v, f)) : Wp c (DD.callS S np nl Γ xs) Q := by
  rw [call_eq hl]
  exact (Wp.bind (c2 := 0) h fun o ho => by
    obtain ⟨v, f, σ', rfl, q⟩ := ho
    exact Wp.ret q).mono (Nat.le_refl _) fun _ z => z
end DD
set_option Elab.async false
set_option linter.all false
set_option maxRecDepth 100000
set_option maxHeartbeats 4000000
/-! P16: _law_pick. -/
namespace DD
open PySem
variable {Γ : FEnv} {σ : SD}
theorem Wp.ix {c : Nat} {a b : SemE} {x : R} {Q1 Q : R → Prop} (ha : a Γ σ = .ret x) (hb : Wp c (b Γ σ) Q1) (k : ∀ y, Q1 y → Wp 0 (ixK x y) Q) : Wp c (eIx a b Γ σ) Q := by
  unfold eIx eBin
  rw [ha, bind_ret]
  exact (Wp.bind hb k).mono (Nat.le_refl _) fun _ z => z
theorem sp_pick {i : Nat} (hd : ∀ xs, Γ i xs = DD.drawM xs) {xs : List PyData} (h0 : 0 < xs.length) (h1 : xs.length < 1000000) :
    Wp 1 (callS (S__law_pick i) 2 2 Γ [.strm, .dat (.list xs)]) fun z => ∃ x f, x ∈ xs ∧ z = (.dat x, f) := by
  let σ0 : SD := startN 2 [.strm, .dat (.list xs)]
  have e0 : eVar 0 Γ σ0 = .ret (finV .strm [] .no) := eVar_at (s := ⟨.strm, .no⟩) rfl
  have e1 : eVar 1 Γ σ0 = .ret (finV (.dat (.list xs)) [] .no) := eVar_at (s := ⟨.dat (.list xs), .no⟩) rfl
  have ln : eLen (eVar 1) Γ σ0 = .ret (rP (.int xs.length)) := sq_len e1 (by rw [finV_dat, fin_v]) (.inl rfl)
  have cl : Wp 1 (eCall i (aCons (eVar 0) (aCons (eLen (eVar 1)) aNil)) Γ σ0) fun y => ∃ j : Nat, j < xs.length ∧ y = rP (.int j) := by
    refine Wp.call (rs := [finV .strm [] .no, rP (.int xs.length)]) (by unfold aCons aNil; rw [e0, ln]; rfl) ((Wp.drawM hd h0 h1).mono (Nat.le_refl _) fun z hz => ?_)
    obtain ⟨j, hj, rfl⟩ := hz
    exact ⟨j, hj, by rw [finV_dat, fin_all]⟩
  refine Wp.callS rfl ?_
  have ix : Wp 1 (eIx (eVar 1) (eCall i (aCons (eVar 0) (aCons (eLen (eVar 1)) aNil))) Γ σ0) fun r => ∃ x, x ∈ xs ∧ r.v = .dat x := by
    refine Wp.ix e1 cl fun y hy => ?_
    obtain ⟨j, hj, rfl⟩ := hy
    unfold ixK
    rw [finV_dat, fin_v]
    dsimp only
    have ha : atD xs (j : Int) = some xs[j] := by
      unfold atD ixD
      rw [if_pos (by omega), if_pos (by omega)]
      simp
    rw [ha]
    exact Wp.ret ⟨xs[j], List.getElem_mem hj, part_v _ _⟩
  refine (Wp.seq (c2 := 0) (Q1 := fun o => ∃ x f σ', x ∈ xs ∧ o = .rt (.dat x) f σ') ?_ ?_).mono (Nat.le_refl _) fun _ z => z
  · unfold sRet
    refine (Wp.bind (c2 := 0) ix fun r hr => ?_).mono (Nat.le_refl _) fun _ z => z
    obtain ⟨x, hx, hv⟩ := hr
    exact Wp.ret ⟨x, r.f, _, hx, by rw [hv]⟩
  · rintro o ⟨x, f, σ', hx, rfl⟩
    exact Wp.ret ⟨_, _, _, rfl, x, f, hx, rfl⟩
end DD
set_option Elab.async false
set_option linter.all false
set_option maxRecDepth 100000
set_option maxHeartbeats 4000000
/-! P17: _law_copied of data without dicts. -/
namespace DD
open PySem
variable {Γ : FEnv} {σ : SD}
/-- no dict in it but the empty one, at most n deep -/
inductive NoDic : Nat → PyData → Prop
  | none {n : Nat} : NoDic n .none
  | bool {n : Nat} (b : Bool) : NoDic n (.bool b)
  | dict {n : Nat} : NoDic (n + 1) (.dict [])
  | int {n : Nat} (i : Int) : NoDic n (.int i)
  | str {n : Nat} (s : Str) : NoDic n (.str s)
  | list {n : Nat} {xs : List PyData} (h : ∀ x ∈ xs, NoDic n x) (hl : xs.length ≤ 16777216) : NoDic (n + 1) (.list xs)
  | tuple {n : Nat} {xs : List PyData} (h : ∀ x ∈ xs, NoDic n x) (hl : xs.length ≤ 16777216) : NoDic (n + 1) (.tuple xs)
theorem lcGo_v {α : Type} {p : α → PyData} {g : SemG} {e : SemE} {σ : SD} {V : α → PyData} : ∀ {items : List α}, (∀ x ∈ items, ∃ σ1 r, g (p x) σ = .ret σ1 ∧ e Γ σ1 = .ret r ∧ r.v = .dat (V x)) → ∃ rs, lcGo g tYesD e Γ σ (items.map p) = .ret rs ∧ datas rs = some (items.map V)
  | [], _ => ⟨[], rfl, rfl⟩
  | x :: xs, h => by
    obtain ⟨σ1, r, h1, h2, h3⟩ := h x List.mem_cons_self
    obtain ⟨rs, i1, i2⟩ := lcGo_v (items := xs) fun y hy => h y (List.mem_cons_of_mem _ hy)
    have ht : tYesD Γ σ1 = .ret true := rfl
    refine ⟨r :: rs, ?_, ?_⟩
    · show lcGo _ _ _ _ _ (p x :: xs.map p) = _
      unfold lcGo
      rw [h1, bind_ret, ht, bind_ret, if_pos rfl, h2, bind_ret, i1, bind_ret]
    · unfold datas
      rw [h3]
      dsimp only
      rw [i2]
      rfl
theorem eLc_v {α : Type} {p : α → PyData} {own : List Nat} {i : SemI} {g : SemG} {e : SemE} {σ : SD} {ct : List Nat} {V : α → PyData} {items : List α} (hi : i Γ σ = .ret (items.map p, ct)) (hl : items.length ≤ 16777216)
    (h : ∀ x ∈ items, ∃ σ1 r, g (p x) (wipeD (demote ct σ) own) = .ret σ1 ∧ e Γ σ1 = .ret r ∧ r.v = .dat (V x)) : ∃ r, eLc own i g tYesD e Γ σ = .ret r ∧ r.v = .dat (.list (items.map V)) := by
  obtain ⟨rs, i1, i2⟩ := lcGo_v h
  refine ⟨fin (.list (items.map V)) (tsOf rs ++ ct) (dispF rs), ?_, fin_v _ _ _⟩
  unfold eLc
  rw [hi, bind_ret]
  dsimp only
  rw [i1]
  show lcEnd ct _ = _
  unfold lcEnd
  rw [i2]
  dsimp only
  rw [if_pos (by rw [List.length_map]; exact hl)]
theorem finV_v (d : PyData) (t : List Nat) (f : Fr) : (finV (.dat d) t f).v = .dat d := by rw [finV_dat, fin_v]
theorem finV_t0 (d : PyData) (f : Fr) : (finV (.dat d) [] f).t = [] := by
  rw [finV_dat]
  unfold fin
  split
  · rfl
  · split <;> rfl
end DD
set_option Elab.async false
set_option linter.all false
set_option maxRecDepth 100000
set_option maxHeartbeats 4000000
/-! P18: rules for what draws; what the slots hold, without their frames. -/
namespace DD
open PySem
variable {Γ : FEnv} {σ : SD} {vs : List (Option Vl)}
/-- what the slots hold, without their frames -/
def Vw (σ : SD) (vs : List (Option Vl)) : Prop := σ.map (Option.map (·.v)) = vs
theorem Vw.at (h : Vw σ vs) {i : Nat} {v : Vl} (e : vs[i]? = some (some v)) : ∃ m, σ[i]? = some (some ⟨v, m⟩) := by
  unfold Vw at h
  rw [← h, List.getElem?_map] at e
  cases h1 : σ[i]? with
  | none => rw [h1] at e; cases e
  | some o =>
    rw [h1] at e
    cases o with
    | none => cases e
    | some s =>
      obtain ⟨v', m⟩ := s
      have : v' = v := Option.some.inj (Option.some.inj e)
      subst this
      exact ⟨m, rfl⟩
theorem Vw.demote (h : Vw σ vs) (t : List Nat) : Vw (demote t σ) vs := by
  unfold Vw at *
  rw [← h]
  apply List.ext_getElem?
  intro i
  unfold DD.demote
  rw [List.getElem?_map, List.getElem?_map, List.getElem?_mapIdx]
  cases σ[i]? with
  | none => rfl
  | some o =>
    cases o with
    | none => rfl
    | some s =>
      show some (some (if i ∈ t then (⟨s.v, .no⟩ : Sl) else s).v) = some (some s.v)
      split <;> rfl
theorem Vw.set (h : Vw σ vs) (i : Nat) (o : Option Sl) : Vw (σ.set i o) (vs.set i (o.map (·.v))) := by
  unfold Vw at *
  rw [← h, List.map_set]
theorem Vw.wipe (h : Vw σ vs) : ∀ own : List Nat, Vw (wipeD σ own) (own.foldr (fun v vs => vs.set v none) vs)
  | [] => h
  | v :: own => (Vw.wipe h own).set v none
/-- a slot that may be changed -/
def Ow (σ : SD) (i : Nat) : Prop := ∃ s, σ[i]? = some (some s) ∧ s.m ≠ .no
theorem Ow.demote {i : Nat} (h : Ow σ i) {t : List Nat} (ht : i ∉ t) : Ow (demote t σ) i := by
  obtain ⟨s, h1, h2⟩ := h
  refine ⟨s, ?_, h2⟩
  unfold DD.demote
  rw [List.getElem?_mapIdx, h1]
  show some (some (if i ∈ t then (⟨s.v, .no⟩ : Sl) else s)) = _
  rw [if_neg ht]
theorem Ow.set {i j : Nat} (h : Ow σ i) (ne : i ≠ j) (o : Option Sl) : Ow (σ.set j o) i := by
  obtain ⟨s, h1, h2⟩ := h
  exact ⟨s, by rw [List.getElem?_set_ne (Ne.symm ne)]; exact h1, h2⟩
/-- slots that hold vs, those of O may be changed -/
structure St (σ : SD) (vs : List (Option Vl)) (O : List Nat) : Prop where
  v : Vw σ vs
  o : ∀ i ∈ O, Ow σ i
def apart (O T : List Nat) (i : Nat) : Bool := O.all fun o => !T.contains o && o != i
theorem apart_t {O T : List Nat} {i o : Nat} (h : apart O T i = true) (ho : o ∈ O) : o ∉ T ∧ o ≠ i := by
  have := List.all_eq_true.mp h o ho
  simp at this
  exact this
theorem St.setS {O T : List Nat} {i : Nat} {r : R} (h : St σ vs O) (ht : ∀ x ∈ r.t, x ∈ T) (ha : apart O T i = true) : St (setS i r σ) (vs.set i (some r.v)) O :=
  ⟨(h.v.demote r.t).set i _, fun o ho => ((h.o o ho).demote fun z => (apart_t ha ho).1 (ht o z)).set (apart_t ha ho).2 _⟩
theorem St.sub {O O' : List Nat} (h : St σ vs O) (s : ∀ o ∈ O', o ∈ O) : St σ vs O' := ⟨h.v, fun o ho => h.o o (s o ho)⟩
theorem St.demote {O T t : List Nat} (h : St σ vs O) (ht : ∀ x ∈ t, x ∈ T) (ha : (O.all fun o => !T.contains o) = true) : St (demote t σ) vs O :=
  ⟨h.v.demote t, fun o ho => (h.o o ho).demote fun z => by
    have := List.all_eq_true.mp ha o ho
    simp at this
    exact this (ht o z)⟩
/-! expressions -/
def Ev (Γ : FEnv) (e : SemE) (σ : SD) (d : PyData) (T : List Nat) : Prop := ∃ r, e Γ σ = .ret r ∧ r.v = .dat d ∧ ∀ x ∈ r.t, x ∈ T
def Dr (Γ : FEnv) (c : Nat) (e : SemE) (σ : SD) (T : List Nat) (P : PyData → Prop) : Prop := Wp c (e Γ σ) fun r => ∃ d, r.v = .dat d ∧ P d ∧ ∀ x ∈ r.t, x ∈ T
def EvA (Γ : FEnv) (a : SemA) (σ : SD) (vs : List Vl) (T : List Nat) : Prop := ∃ rs, a Γ σ = .ret rs ∧ rs.map (·.v) = vs ∧ ∀ x ∈ tsOf rs, x ∈ T
def EvI (Γ : FEnv) (i : SemI) (σ : SD) (xs : List PyData) (T : List Nat) : Prop := ∃ ct, i Γ σ = .ret (xs, ct) ∧ ∀ x ∈ ct, x ∈ T
section
variable {e a b : SemE} {d d' x : PyData} {T T' : List Nat} {c : Nat} {P P' : PyData → Prop} {xs : List PyData}
theorem Ev.dr (h : Ev Γ e σ d T) (p : P d) : Dr Γ 0 e σ T P := by
  obtain ⟨r, h1, h2, h3⟩ := h
  unfold Dr
  rw [h1]
  exact Wp.ret ⟨d, h2, p, h3⟩
theorem Ev.sub (h : Ev Γ e σ d T) (s : ∀ x ∈ T, x ∈ T') : Ev Γ e σ d T' := by
  obtain ⟨r, h1, h2, h3⟩ := h
  exact ⟨r, h1, h2, fun x hx => s x (h3 x hx)⟩
theorem Dr.mono {c' : Nat} (h : Dr Γ c e σ T P) (hc : c ≤ c') (hp : ∀ d, P d → P' d) : Dr Γ c' e σ T P' :=
  Wp.mono h hc fun r ⟨d, h1, h2, h3⟩ => ⟨d, h1, hp d h2, h3⟩
theorem fin_t (d : PyData) (t : List Nat) (f : Fr) : ∀ x ∈ (fin d t f).t, x ∈ t := by
  unfold fin
  split
  · intro x hx; cases hx
  · split
    · intro x hx; cases hx
    · exact fun _ z => z
theorem ev_rP (h : e Γ σ = .ret (rP d)) : Ev Γ e σ d [] := ⟨_, h, rfl, fun _ z => z⟩
theorem ev_c (d : PyData) : Ev Γ (eC d) σ d [] := ev_rP rfl
theorem Vw.ev (h : Vw σ vs) {i : Nat} (e : vs[i]? = some (some (.dat d))) : Ev Γ (eVar i) σ d [i] := by
  obtain ⟨m, hm⟩ := h.at e
  refine ⟨_, eVar_at hm, finV_v _ _ _, fun x hx => ?_⟩
  have := fin_t _ _ _ x hx
  revert this
  show x ∈ (if m = .no then [] else [i]) → _
  split
  · intro z; cases z
  · exact fun z => z
theorem Vw.evP (h : Vw σ vs) {i : Nat} (e : vs[i]? = some (some (.dat d))) (hp : pur d = true) : Ev Γ (eVar i) σ d [] := by
  obtain ⟨m, hm⟩ := h.at e
  exact ev_rP (by rw [eVar_at hm, finV_dat, fin_pur hp])
theorem ev_un {op : PyData → Option PyData} {r : PyData} (h : Ev Γ a σ d T) (ho : op d = some r) : Ev Γ (eUn op a) σ r [] := by
  obtain ⟨y, h1, h2, _⟩ := h
  exact ev_rP (eUn_of h1 h2 ho)
theorem ev_op {op : PyData → PyData → Option PyData} {r : PyData} (h : Ev Γ a σ d T) (h' : Ev Γ b σ d' T') (ho : op d d' = some r) : Ev Γ (eOp op a b) σ r [] := by
  obtain ⟨y, h1, h2, _⟩ := h
  obtain ⟨z, g1, g2, _⟩ := h'
  exact ev_rP (eOp_of h1 h2 g1 g2 ho)
theorem ev_bin {K : R → R → M R} {r : PyData} {T2 : List Nat} (h : Ev Γ a σ d T) (h' : Ev Γ b σ d' T') (k : ∀ x y : R, x.v = .dat d → y.v = .dat d' → (∀ t ∈ x.t, t ∈ T) → (∀ t ∈ y.t, t ∈ T') → ∃ z, K x y = .ret z ∧ z.v = .dat r ∧ ∀ t ∈ z.t, t ∈ T2) : Ev Γ (eBin K a b) σ r T2 := by
  obtain ⟨y, h1, h2, h3⟩ := h
  obtain ⟨z, g1, g2, g3⟩ := h'
  obtain ⟨w, k1, k2⟩ := k y z h2 g2 h3 g3
  refine ⟨w, ?_, k2⟩
  unfold eBin
  rw [h1, bind_ret, g1, bind_ret, k1]
theorem ev_mon {K : R → M R} {r : PyData} {T2 : List Nat} (h : Ev Γ a σ d T) (k : ∀ x : R, x.v = .dat d → (∀ t ∈ x.t, t ∈ T) → ∃ z, K x = .ret z ∧ z.v = .dat r ∧ ∀ t ∈ z.t, t ∈ T2) : Ev Γ (eMon K a) σ r T2 := by
  obtain ⟨y, h1, h2, h3⟩ := h
  obtain ⟨w, k1, k2⟩ := k y h2 h3
  refine ⟨w, ?_, k2⟩
  unfold eMon
  rw [h1, bind_ret, k1]
/-- drawn, then one step -/
theorem dr_mon {K : R → M R} {T2 : List Nat} (h : Dr Γ c a σ T P) (k : ∀ (x : R) d, x.v = .dat d → P d → (∀ t ∈ x.t, t ∈ T) → ∃ z r, K x = .ret z ∧ z.v = .dat r ∧ P' r ∧ ∀ t ∈ z.t, t ∈ T2) : Dr Γ c (eMon K a) σ T2 P' := by
  unfold Dr eMon
  exact (Wp.bind (c2 := 0) h fun x ⟨d, h1, h2, h3⟩ => by
    obtain ⟨z, r, k1, k2, k3, k4⟩ := k x d h1 h2 h3
    rw [k1]
    exact Wp.ret ⟨r, k2, k3, k4⟩).mono (Nat.le_refl _) fun _ z => z
theorem dr_op1 {op : PyData → PyData → Option PyData} (h : Dr Γ c a σ T P) (h' : Ev Γ b σ d' T') (ho : ∀ d, P d → ∃ r, op d d' = some r ∧ P' r) : Dr Γ c (eOp op a b) σ [] P' := by
  obtain ⟨z, g1, g2, _⟩ := h'
  unfold Dr eOp
  exact (Wp.bind (c2 := 0) h fun x ⟨d, h1, h2, h3⟩ => by
    obtain ⟨r, k1, k2⟩ := ho d h2
    rw [g1, bind_ret, h1, g2]
    dsimp only
    rw [k1]
    exact Wp.ret ⟨r, rfl, k2, fun _ z => z⟩).mono (Nat.le_refl _) fun _ z => z
theorem ev_add {i j : Int} (h : Ev Γ a σ (.int i) T) (h' : Ev Γ b σ (.int j) T') : Ev Γ (eAdd a b) σ (.int (i + j)) [] :=
  ev_bin h h' fun x y hx hy _ _ => ⟨rP (.int (i + j)), by unfold addK; rw [hx, hy], rfl, fun _ z => z⟩
theorem dr_add2 {i : Int} (h : Ev Γ a σ (.int i) T) (h' : Dr Γ c b σ T' fun d => ∃ j : Int, d = .int j ∧ P' (.int (i + j))) : Dr Γ c (eAdd a b) σ [] P' := by
  obtain ⟨z, g1, g2, _⟩ := h
  unfold Dr eAdd eBin
  rw [g1, bind_ret]
  refine (Wp.bind (c2 := 0) h' fun x hx => ?_).mono (Nat.le_refl _) fun _ z => z
  obtain ⟨d, h1, ⟨j, rfl, h2⟩, h3⟩ := hx
  have : addK z x = .ret (rP (.int (i + j))) := by unfold addK; rw [g2, h1]
  rw [this]
  exact Wp.ret ⟨_, rfl, h2, fun _ z => z⟩
theorem ev_mul {i j : Int} (h : Ev Γ a σ (.int i) T) (h' : Ev Γ b σ (.int j) T') (hs : (small64 i || small64 j) = true) : Ev Γ (eMul a b) σ (.int (i * j)) [] :=
  ev_bin h h' fun x y hx hy _ _ => ⟨rP (.int (i * j)), by unfold mulK; rw [hx, hy]; dsimp only; rw [if_pos hs], rfl, fun _ z => z⟩
theorem part_t (x : R) (d : PyData) : ∀ t ∈ (part x d).t, t ∈ x.t := fin_t _ _ _
theorem ev_ix {k : Int} (h : Ev Γ a σ d T) (hs : Sq d xs) (h' : Ev Γ b σ (.int k) T') (h0 : 0 ≤ k) (hx : xs[k.toNat]? = some x) : Ev Γ (eIx a b) σ x T := by
  refine ev_bin h h' fun y z hy hz ty _ => ⟨part y x, ?_, part_v _ _, fun t ht => ty t (part_t _ _ t ht)⟩
  have ha : atD xs k = some x := by
    unfold atD ixD
    have hl := (List.getElem?_eq_some_iff.mp hx).1
    rw [if_pos h0, if_pos (by omega)]
    exact hx
  unfold ixK
  rw [hy, hz]
  rcases hs with rfl | rfl <;> (dsimp only; rw [ha]; rfl)
theorem ev_len (h : Ev Γ a σ d T) (hs : Sq d xs) : Ev Γ (eLen a) σ (.int xs.length) [] := by
  refine ev_un h ?_
  rcases hs with rfl | rfl <;> rfl
theorem ev_list (h : Ev Γ a σ d T) (hs : Sq d xs) : Ev Γ (eList a) σ (.list xs) T :=
  ev_mon h fun y hy ty => ⟨fin (.list xs) y.t (subF y (.list xs)), by unfold listK; rw [hy]; rcases hs with rfl | rfl <;> rfl, fin_v _ _ _, fun t ht => ty t (fin_t _ _ _ t ht)⟩
theorem ev_tuple (h : Ev Γ a σ d T) (hs : Sq d xs) : Ev Γ (eTuple a) σ (.tuple xs) T :=
  ev_mon h fun y hy ty => ⟨part y (.tuple xs), by unfold tupleK; rw [hy]; rcases hs with rfl | rfl <;> rfl, part_v _ _, fun t ht => ty t (part_t _ _ t ht)⟩
theorem ev_rg {n : Nat} (h : Ev Γ a σ (.int n) T) (hn : n ≤ 16777216) : Ev Γ (eLRg a) σ (.list (rangeD 0 n)) [] := by
  refine ev_mon h fun y hy ty => ⟨fin (.list (rangeD 0 n)) [] .all, ?_, fin_v _ _ _, fun t ht => fin_t _ _ _ t ht⟩
  unfold rgK
  rw [hy]
  dsimp only
  rw [if_pos (by unfold small62; simp; omega), Int.toNat_natCast]
theorem eva_nil : EvA Γ aNil σ [] [] := ⟨[], rfl, rfl, fun _ z => z⟩
theorem eva_cons {r : SemA} {us : List Vl} (h : Ev Γ a σ d T) (h' : EvA Γ r σ us T') : EvA Γ (aCons a r) σ (.dat d :: us) (T ++ T') := by
  obtain ⟨y, h1, h2, h3⟩ := h
  obtain ⟨rs, g1, g2, g3⟩ := h'
  refine ⟨y :: rs, ?_, by rw [List.map_cons, h2, g2], fun x hx => ?_⟩
  · unfold aCons
    rw [h1, bind_ret, g1, bind_ret]
  · unfold tsOf at hx
    rw [List.flatMap_cons] at hx
    rcases List.mem_append.mp hx with z | z
    · exact List.mem_append_left _ (h3 x z)
    · exact List.mem_append_right _ (g3 x z)
theorem eva_strm {i : Nat} {r : SemA} {us : List Vl} (h : Vw σ vs) (e : vs[i]? = some (some .strm)) (h' : EvA Γ r σ us T') : EvA Γ (aCons (eVar i) r) σ (.strm :: us) T' := by
  obtain ⟨m, hm⟩ := h.at e
  obtain ⟨rs, g1, g2, g3⟩ := h'
  refine ⟨finV .strm (if m = .no then [] else [i]) .no :: rs, ?_, by rw [List.map_cons, g2]; rfl, fun x hx => ?_⟩
  · unfold aCons
    rw [eVar_at hm, bind_ret, g1, bind_ret]
  · unfold tsOf at hx
    rw [List.flatMap_cons] at hx
    rcases List.mem_append.mp hx with z | z
    · cases z
    · exact g3 x z
theorem finV_t (v : Vl) (t : List Nat) (f : Fr) : ∀ x ∈ (finV v t f).t, x ∈ t := by
  cases v with
  | dat d => exact fin_t _ _ _
  | strm => exact fun x hx => by cases hx
  | scr => exact fun x hx => by cases hx
theorem ev_call {i : Nat} {r : SemA} {us : List Vl} {f : Fr} (h : EvA Γ r σ us T) (hz : Γ i us = .ret (.dat d, f)) : Ev Γ (eCall i r) σ d T := by
  obtain ⟨rs, g1, g2, g3⟩ := h
  exact ⟨_, eCall_of g1 (by rw [g2]; exact hz), finV_v _ _ _, fun x hx => g3 x (finV_t _ _ _ x hx)⟩
theorem dr_call {i : Nat} {r : SemA} {us : List Vl} (h : EvA Γ r σ us T) (hz : Wp c (Γ i us) fun z => ∃ d f, z = (.dat d, f) ∧ P d) : Dr Γ c (eCall i r) σ T P := by
  obtain ⟨rs, g1, g2, g3⟩ := h
  refine Wp.call g1 ?_
  rw [g2]
  refine hz.mono (Nat.le_refl _) fun z hz => ?_
  obtain ⟨d, f, rfl, p⟩ := hz
  exact ⟨d, finV_v _ _ _, p, fun x hx => g3 x (finV_t _ _ _ x hx)⟩
theorem datas_of : ∀ {rs : List R} {ds : List PyData}, rs.map (·.v) = ds.map Vl.dat → datas rs = some ds
  | [], [], _ => rfl
  | r :: rs, d :: ds, h => by
    rw [List.map_cons, List.map_cons] at h
    obtain ⟨h1, h2⟩ := List.cons.inj h
    unfold datas
    rw [h1]
    dsimp only
    rw [datas_of h2]
    rfl
  | [], _ :: _, h => by cases h
  | _ :: _, [], h => by cases h
theorem ev_tup {r : SemA} {ds : List PyData} (h : EvA Γ r σ (ds.map Vl.dat) T) (hl : ds.length ≤ 16777216) : Ev Γ (eTup r) σ (.tuple ds) T := by
  obtain ⟨rs, g1, g2, g3⟩ := h
  refine ⟨fin (.tuple ds) (tsOf rs) (if allF rs then .all else .no), ?_, fin_v _ _ _, fun x hx => g3 x (fin_t _ _ _ x hx)⟩
  unfold eTup
  rw [g1, bind_ret, datas_of g2]
  dsimp only
  rw [if_pos hl]
theorem ev_lst {r : SemA} {ds : List PyData} (h : EvA Γ r σ (ds.map Vl.dat) T) (hl : ds.length ≤ 16777216) : Ev Γ (eLst r) σ (.list ds) T := by
  obtain ⟨rs, g1, g2, g3⟩ := h
  refine ⟨fin (.list ds) (tsOf rs) (dispF rs), ?_, fin_v _ _ _, fun x hx => g3 x (fin_t _ _ _ x hx)⟩
  unfold eLst
  rw [g1, bind_ret, datas_of g2]
  dsimp only
  rw [if_pos hl]
theorem ev_if {t : SemT} {k : Bool} (ht : t Γ σ = .ret k) (h1 : k = true → Ev Γ a σ d T) (h2 : k = false → Ev Γ b σ d T) : Ev Γ (eIf t a b) σ d T := by
  unfold Ev eIf
  rw [ht, bind_ret]
  cases k with
  | true => rw [if_pos rfl]; exact h1 rfl
  | false => rw [if_neg (by simp)]; exact h2 rfl
theorem dr_if {t : SemT} {k : Bool} (ht : t Γ σ = .ret k) (h1 : k = true → Dr Γ c a σ T P) (h2 : k = false → Dr Γ c b σ T P) : Dr Γ c (eIf t a b) σ T P := by
  unfold Dr eIf
  rw [ht, bind_ret]
  cases k with
  | true => rw [if_pos rfl]; exact h1 rfl
  | false => rw [if_neg (by simp)]; exact h2 rfl
theorem ev_tval {k : Bool} (h : Ev Γ a σ (.bool k) T) : tVal a Γ σ = .ret k := by
  obtain ⟨r, h1, h2, _⟩ := h
  unfold tVal
  rw [h1, bind_ret]
  unfold truR
  rw [h2]
  rfl
theorem ei_val (h : Ev Γ a σ d T) (hs : Sq d xs) : EvI Γ (iVal a) σ xs T := by
  obtain ⟨r, h1, h2, h3⟩ := h
  exact ⟨r.t, sq_iVal h1 h2 hs, h3⟩
theorem ei_rg {n : Nat} (h : Ev Γ a σ (.int n) T) (hn : n ≤ 16777216) : EvI Γ (iRange1 a) σ (rangeD 0 n) [] := by
  obtain ⟨r, h1, h2, h3⟩ := h
  refine ⟨[], ?_, fun _ z => z⟩
  unfold iRange1
  rw [h1, bind_ret, h2]
  dsimp only
  rw [if_pos (by unfold small62; simp; omega), Int.toNat_natCast]
end
end DD
set_option Elab.async false
set_option linter.all false
set_option maxRecDepth 100000
set_option maxHeartbeats 4000000
/-! P19: rules for comprehensions and statements that draw. -/
namespace DD
open PySem
variable {Γ : FEnv} {σ : SD} {vs : List (Option Vl)}
theorem Wp.le {α : Type} {c c' : Nat} {m : M α} {Q : α → Prop} (h : Wp c m Q) (hc : c ≤ c') : Wp c' m Q := h.mono hc fun _ z => z
/-- what a comprehension keeps -/
inductive Lc (Y : PyData → PyData → Prop) (N : PyData → Prop) : List PyData → List PyData → Prop
  | nil : Lc Y N [] []
  | cons {x d : PyData} {xs ds : List PyData} : Y x d → Lc Y N xs ds → Lc Y N (x :: xs) (d :: ds)
  | skip {x : PyData} {xs ds : List PyData} : N x → Lc Y N xs ds → Lc Y N (x :: xs) ds
section
variable {T T' : List Nat} {g : SemG} {t : SemT} {e : SemE} {it : SemI} {own : List Nat} {items : List PyData}
theorem lcGo_wp {c1 c2 : Nat} {Y : PyData → PyData → Prop} {N : PyData → Prop} : ∀ {items : List PyData}, (∀ x ∈ items, ∃ σ1, g x σ = .ret σ1 ∧ Wp c1 (t Γ σ1) fun k => if k then Dr Γ c2 e σ1 T' (Y x) else N x) →
    Wp ((c1 + c2) * items.length) (lcGo g t e Γ σ items) fun rs => ∃ ds, datas rs = some ds ∧ Lc Y N items ds ∧ ∀ x ∈ tsOf rs, x ∈ T'
  | [], _ => Wp.retc ⟨[], rfl, .nil, fun _ z => by cases z⟩
  | x :: xs, h => by
    obtain ⟨σ1, h1, h2⟩ := h x List.mem_cons_self
    have ih := lcGo_wp (items := xs) fun y hy => h y (List.mem_cons_of_mem _ hy)
    unfold lcGo
    rw [h1, bind_ret]
    refine (Wp.bind (c2 := c2 + (c1 + c2) * xs.length) h2 fun k hk => ?_).le (by rw [List.length_cons, Nat.mul_succ]; omega)
    cases k with
    | true =>
      rw [if_pos rfl] at hk
      rw [if_pos rfl]
      refine Wp.bind hk fun r hr => ?_
      obtain ⟨d, d1, d2, d3⟩ := hr
      refine (Wp.bind (c2 := 0) ih fun rs hrs => ?_).le (Nat.le_refl _)
      obtain ⟨ds, e1, e2, e3⟩ := hrs
      refine Wp.ret ⟨d :: ds, ?_, .cons d2 e2, fun x hx => ?_⟩
      · unfold datas
        rw [d1]
        dsimp only
        rw [e1]
        rfl
      · unfold tsOf at hx
        rw [List.flatMap_cons] at hx
        rcases List.mem_append.mp hx with z | z
        · exact d3 x z
        · exact e3 x z
    | false =>
      rw [if_neg (by simp)] at hk
      rw [if_neg (by simp)]
      exact ih.mono (by omega) fun rs ⟨ds, e1, e2, e3⟩ => ⟨ds, e1, .skip hk e2, e3⟩
theorem Lc.len {Y : PyData → PyData → Prop} {N : PyData → Prop} {xs ds : List PyData} (h : Lc Y N xs ds) : ds.length ≤ xs.length := by
  induction h with
  | nil => exact Nat.le_refl _
  | cons _ _ ih => simp; exact ih
  | skip _ _ ih => exact Nat.le_succ_of_le ih
theorem Lc.all2 {Y : PyData → PyData → Prop} {xs ds : List PyData} (h : Lc Y (fun _ => False) xs ds) : All2 Y xs ds := by
  induction h with
  | nil => exact .nil
  | cons a _ ih => exact .cons a ih
  | skip z _ _ => exact z.elim
theorem dr_lc {c1 c2 : Nat} {Y : PyData → PyData → Prop} {N : PyData → Prop} (hv : Vw σ vs) (hi : EvI Γ it σ items T) (hl : items.length ≤ 16777216)
    (h : ∀ x ∈ items, ∀ σ0, Vw σ0 (own.foldr (fun v vs => vs.set v none) vs) → ∃ σ1, g x σ0 = .ret σ1 ∧ Wp c1 (t Γ σ1) fun k => if k then Dr Γ c2 e σ1 T' (Y x) else N x) :
    Dr Γ ((c1 + c2) * items.length) (eLc own it g t e) σ (T' ++ T) fun d => ∃ ds, d = .list ds ∧ Lc Y N items ds := by
  obtain ⟨ct, hc, hct⟩ := hi
  unfold Dr eLc
  rw [hc, bind_ret]
  dsimp only
  refine (Wp.bind (c2 := 0) (Wp.noX (lcGo_wp fun x hx => h x hx _ ((hv.demote ct).wipe own))) fun rs hrs => ?_).le (Nat.le_refl _)
  obtain ⟨ds, e1, e2, e3⟩ := hrs
  unfold lcEnd
  rw [e1]
  dsimp only
  rw [if_pos (Nat.le_trans e2.len hl)]
  refine Wp.ret ⟨.list ds, fin_v _ _ _, ⟨ds, rfl, e2⟩, fun x hx => ?_⟩
  rcases List.mem_append.mp (fin_t _ _ _ x hx) with z | z
  · exact List.mem_append_left _ (e3 x z)
  · exact List.mem_append_right _ (hct x z)
/-- all items kept -/
theorem dr_lc1 {c : Nat} {Y : PyData → PyData → Prop} (hv : Vw σ vs) (hi : EvI Γ it σ items T) (hl : items.length ≤ 16777216)
    (h : ∀ x ∈ items, ∀ σ0, Vw σ0 (own.foldr (fun v vs => vs.set v none) vs) → ∃ σ1, g x σ0 = .ret σ1 ∧ Dr Γ c e σ1 T' (Y x)) :
    Dr Γ (c * items.length) (eLc own it g tYesD e) σ (T' ++ T) fun d => ∃ ds, d = .list ds ∧ All2 Y items ds := by
  have := dr_lc (c1 := 0) (c2 := c) (t := tYesD) (N := fun _ => False) hv hi hl fun x hx σ0 h0 => by
    obtain ⟨σ1, h1, h2⟩ := h x hx σ0 h0
    exact ⟨σ1, h1, Wp.ret (by rw [if_pos rfl]; exact h2)⟩
  rw [Nat.zero_add] at this
  exact this.mono (Nat.le_refl _) fun d ⟨ds, h1, h2⟩ => ⟨ds, h1, h2.all2⟩
theorem ev_lc {p : PyData → Bool} {f : PyData → PyData} (hv : Vw σ vs) (hi : EvI Γ it σ items T) (hl : items.length ≤ 16777216)
    (h : ∀ x ∈ items, ∀ σ0, Vw σ0 (own.foldr (fun v vs => vs.set v none) vs) → ∃ σ1, g x σ0 = .ret σ1 ∧ t Γ σ1 = .ret (p x) ∧ (p x = true → Ev Γ e σ1 (f x) T')) :
    Ev Γ (eLc own it g t e) σ (.list ((items.filter p).map f)) (T' ++ T) := by
  obtain ⟨ct, hc, hct⟩ := hi
  have go : ∀ {items : List PyData}, (∀ x ∈ items, ∃ σ1, g x (wipeD (demote ct σ) own) = .ret σ1 ∧ t Γ σ1 = .ret (p x) ∧ (p x = true → Ev Γ e σ1 (f x) T')) → ∃ rs, lcGo g t e Γ (wipeD (demote ct σ) own) items = .ret rs ∧ datas rs = some ((items.filter p).map f) ∧ ∀ x ∈ tsOf rs, x ∈ T' := by
    intro items
    induction items with
    | nil => exact fun _ => ⟨[], rfl, rfl, fun _ z => by cases z⟩
    | cons x xs ih =>
      intro h
      obtain ⟨σ1, h1, h2, h3⟩ := h x List.mem_cons_self
      obtain ⟨rs, i1, i2, i3⟩ := ih fun y hy => h y (List.mem_cons_of_mem _ hy)
      unfold lcGo
      rw [h1, bind_ret, h2, bind_ret]
      cases hp : p x with
      | true =>
        obtain ⟨r, r1, r2, r3⟩ := h3 hp
        refine ⟨r :: rs, by rw [if_pos rfl, r1, bind_ret, i1, bind_ret], ?_, fun y hy => ?_⟩
        · rw [List.filter_cons_of_pos hp, List.map_cons]
          unfold datas
          rw [r2]
          dsimp only
          rw [i2]
          rfl
        · unfold tsOf at hy
          rw [List.flatMap_cons] at hy
          rcases List.mem_append.mp hy with z | z
          · exact r3 y z
          · exact i3 y z
      | false => exact ⟨rs, by rw [if_neg (by simp), i1], by rw [List.filter_cons_of_neg (by simp [hp])]; exact i2, i3⟩
  obtain ⟨rs, i1, i2, i3⟩ := go fun x hx => h x hx _ ((hv.demote ct).wipe own)
  refine ⟨fin (.list ((items.filter p).map f)) (tsOf rs ++ ct) (dispF rs), ?_, fin_v _ _ _, fun x hx => ?_⟩
  · unfold eLc
    rw [hc, bind_ret]
    dsimp only
    rw [i1]
    show lcEnd ct rs = _
    unfold lcEnd
    rw [i2]
    dsimp only
    rw [if_pos (by rw [List.length_map]; exact Nat.le_trans (List.length_filter_le _ _) hl)]
  · rcases List.mem_append.mp (fin_t _ _ _ x hx) with z | z
    · exact List.mem_append_left _ (i3 x z)
    · exact List.mem_append_right _ (hct x z)
theorem ev_lc1 {f : PyData → PyData} (hv : Vw σ vs) (hi : EvI Γ it σ items T) (hl : items.length ≤ 16777216)
    (h : ∀ x ∈ items, ∀ σ0, Vw σ0 (own.foldr (fun v vs => vs.set v none) vs) → ∃ σ1, g x σ0 = .ret σ1 ∧ Ev Γ e σ1 (f x) T') :
    Ev Γ (eLc own it g tYesD e) σ (.list (items.map f)) (T' ++ T) := by
  have := ev_lc (t := tYesD) (p := fun _ => true) hv hi hl fun x hx σ0 h0 => by
    obtain ⟨σ1, h1, h2⟩ := h x hx σ0 h0
    exact ⟨σ1, h1, rfl, fun _ => h2⟩
  rwa [filter_true] at this
end
theorem dr_tval {c : Nat} {a : SemE} {T : List Nat} {P : Bool → Prop} (h : Dr Γ c a σ T fun d => ∃ b, d = .bool b ∧ P b) : Wp c (tVal a Γ σ) P := by
  unfold tVal
  refine (Wp.bind (c2 := 0) (Q := P) h fun r hr => ?_).le (Nat.le_refl _)
  obtain ⟨_, h1, ⟨b, rfl, p⟩, _⟩ := hr
  unfold truR
  rw [h1]
  exact Wp.ret p
theorem dr_ifw {c1 c2 : Nat} {a b : SemE} {t : SemT} {T : List Nat} {Pt : Bool → Prop} {P : PyData → Prop} (ht : Wp c1 (t Γ σ) Pt) (h1 : Pt true → Dr Γ c2 a σ T P) (h2 : Pt false → Dr Γ c2 b σ T P) : Dr Γ (c1 + c2) (eIf t a b) σ T P := by
  unfold Dr eIf
  refine Wp.bind ht fun k hk => ?_
  cases k with
  | true => rw [if_pos rfl]; exact h1 hk
  | false => rw [if_neg (by simp)]; exact h2 hk
/-- a draw -/
theorem dr_draw {i m s : Nat} {vs : List (Option Vl)} {a : SemE} {T : List Nat} (hd : ∀ xs, Γ i xs = drawM xs) (hv : Vw σ vs) (hs : vs[s]? = some (some .strm)) (ha : Ev Γ a σ (.int m) T) (h0 : 0 < m) (h1 : m < 1000000) : Dr Γ 1 (eCall i (aCons (eVar s) (aCons a aNil))) σ (T ++ []) fun d => ∃ j : Nat, j < m ∧ d = .int j :=
  dr_call (eva_strm hv hs (eva_cons ha eva_nil)) ((Wp.drawM hd h0 h1).mono (Nat.le_refl _) fun z ⟨j, hj, hz⟩ => ⟨_, _, hz, j, hj, rfl⟩)
/-- a draw is a number -/
theorem dr_drawEq {i m s : Nat} {vs : List (Option Vl)} {a : SemE} {T : List Nat} (k : Int) (hd : ∀ xs, Γ i xs = drawM xs) (hv : Vw σ vs) (hs : vs[s]? = some (some .strm)) (ha : Ev Γ a σ (.int m) T) (h0 : 0 < m) (h1 : m < 1000000) : Wp 1 (tVal (eOp oEq (eCall i (aCons (eVar s) (aCons a aNil))) (eC (.int k))) Γ σ) fun _ => True :=
  dr_tval (T := []) (dr_op1 (dr_draw hd hv hs ha h0 h1) (ev_c (.int k)) fun d hd => by
    obtain ⟨j, _, rfl⟩ := hd
    exact ⟨_, oEq_int _ _, _, rfl, trivial⟩)
/-! statements -/
def NX (Q : SD → Prop) (o : Out) : Prop := ∃ σ, o = .nx σ ∧ Q σ
def RT (P : PyData → Prop) (o : Out) : Prop := ∃ d f σ, o = .rt (.dat d) f σ ∧ P d
/-- as Dr, and whether it is one's own -/
def DrO (Γ : FEnv) (c : Nat) (e : SemE) (σ : SD) (T : List Nat) (o : Bool) (P : PyData → Prop) : Prop := Wp c (e Γ σ) fun r => ∃ d, r.v = .dat d ∧ P d ∧ (∀ x ∈ r.t, x ∈ T) ∧ (o = true → r.f ≠ .no)
theorem Dr.o {c : Nat} {e : SemE} {T : List Nat} {P : PyData → Prop} (h : Dr Γ c e σ T P) : DrO Γ c e σ T false P := Wp.mono h (Nat.le_refl _) fun r ⟨d, h1, h2, h3⟩ => ⟨d, h1, h2, h3, fun z => by cases z⟩
theorem dro_rP {e : SemE} {d : PyData} {P : PyData → Prop} (h : e Γ σ = .ret (rP d)) (p : P d) : DrO Γ 0 e σ [] true P := by
  unfold DrO
  rw [h]
  exact Wp.ret ⟨d, rfl, p, fun _ z => z, fun _ z => by cases z⟩
section
variable {O T T1 T2 : List Nat} {i j : Nat} {c c1 c2 : Nat} {e f : SemE} {P P1 P2 : PyData → Prop} {b : SemS} {Q : Out → Prop} {d : PyData}
theorem q_nx {a : SemS} {Q1 : SD → Prop} (h : Wp c1 (a Γ σ) (NX Q1)) (k : ∀ σ', Q1 σ' → Wp c2 (b Γ σ') Q) : Wp (c1 + c2) (sSeq a b Γ σ) Q :=
  Wp.seq h fun o ho => by
    obtain ⟨σ', rfl, q⟩ := ho
    exact k σ' q
theorem q_eq {a : SemS} {σ' : SD} (h : a Γ σ = .ret (.nx σ')) (k : Wp c (b Γ σ') Q) : Wp c (sSeq a b Γ σ) Q := by rw [sSeq_nx h]; exact k
theorem q_set (h : St σ vs O) (he : Dr Γ c1 e σ T P) (ha : apart O T i = true) (k : ∀ d σ', P d → St σ' (vs.set i (some (.dat d))) O → Wp c2 (b Γ σ') Q) : Wp (c1 + c2) (sSeq (sSet i e) b Γ σ) Q := by
  unfold sSeq sSet
  rw [bind_assoc']
  refine Wp.bind he fun r hr => ?_
  obtain ⟨d, h1, h2, h3⟩ := hr
  have := h.setS h3 ha
  rw [h1] at this
  exact k d _ h2 this
theorem q_setO (h : St σ vs O) (he : DrO Γ c1 e σ T true P) (ha : apart O T i = true) (hi : i < vs.length) (k : ∀ d σ', P d → St σ' (vs.set i (some (.dat d))) (i :: O) → Wp c2 (b Γ σ') Q) : Wp (c1 + c2) (sSeq (sSet i e) b Γ σ) Q := by
  unfold sSeq sSet
  rw [bind_assoc']
  refine Wp.bind he fun r hr => ?_
  obtain ⟨d, h1, h2, h3, h4⟩ := hr
  have s := h.setS h3 ha
  rw [h1] at s
  refine k d _ h2 ⟨s.v, fun o ho => ?_⟩
  rcases List.mem_cons.mp ho with rfl | ho
  · refine ⟨⟨r.v, r.f⟩, ?_, h4 rfl⟩
    have hl : o < (demote r.t σ).length := by
      have := (h.v.demote r.t)
      unfold Vw at this
      rw [← this, List.length_map] at hi
      exact hi
    unfold setS
    rw [List.getElem?_set_self hl]
  · exact s.o o ho
theorem q_set0 (h : St σ vs O) (he : Ev Γ e σ d T) (ha : apart O T i = true) (k : ∀ σ', St σ' (vs.set i (some (.dat d))) O → Wp c (b Γ σ') Q) : Wp c (sSeq (sSet i e) b Γ σ) Q :=
  (q_set (c1 := 0) (c2 := c) h (he.dr (P := fun x => x = d) rfl) ha fun d' σ' (hd : d' = d) s => k σ' (hd ▸ s)).le (by omega)
theorem q_par2 {o1 o2 : Bool} (h : St σ vs O) (hf : DrO Γ c1 e σ T1 o1 P1) (hg : DrO Γ c2 f σ T2 o2 P2) (ha : (apart O (T1 ++ T2) i && apart O (T1 ++ T2) j && i != j && decide (i < vs.length) && decide (j < vs.length)) = true)
    (k : ∀ d1 d2 σ', P1 d1 → P2 d2 → St σ' ((vs.set i (some (.dat d1))).set j (some (.dat d2))) ((if o1 then [i] else []) ++ (if o2 then [j] else []) ++ O) → Wp c (b Γ σ') Q) : Wp (c1 + c2 + c) (sSeq (sPar2 i j e f) b Γ σ) Q := by
  simp only [Bool.and_eq_true, decide_eq_true_eq, bne_iff_ne] at ha
  obtain ⟨⟨⟨⟨a1, a2⟩, a3⟩, a4⟩, a5⟩ := ha
  unfold sSeq sPar2
  rw [bind_assoc']
  refine (Wp.bind (c2 := c2 + c) hf fun r1 hr1 => ?_).le (by omega)
  rw [bind_assoc']
  refine Wp.bind hg fun r2 hr2 => ?_
  obtain ⟨d1, h1, p1, t1, w1⟩ := hr1
  obtain ⟨d2, h2, p2, t2, w2⟩ := hr2
  have ht : ∀ x ∈ r1.t ++ r2.t, x ∈ T1 ++ T2 := fun x hx => by
    rcases List.mem_append.mp hx with z | z
    · exact List.mem_append_left _ (t1 x z)
    · exact List.mem_append_right _ (t2 x z)
  have hlen : (demote (r1.t ++ r2.t) σ).length = vs.length := by
    have := h.v.demote (r1.t ++ r2.t)
    unfold Vw at this
    rw [← this, List.length_map]
  refine k d1 d2 _ p1 p2 ⟨?_, fun o ho => ?_⟩
  · have := ((h.v.demote (r1.t ++ r2.t)).set i (some ⟨r1.v, r1.f⟩)).set j (some ⟨r2.v, r2.f⟩)
    rwa [show ((some (⟨r1.v, r1.f⟩ : Sl)).map (·.v)) = some (.dat d1) from by rw [← h1]; rfl, show ((some (⟨r2.v, r2.f⟩ : Sl)).map (·.v)) = some (.dat d2) from by rw [← h2]; rfl] at this
  · rcases List.mem_append.mp ho with ho | ho
    · rcases List.mem_append.mp ho with ho | ho
      · cases o1 with
        | false => cases ho
        | true =>
          have : o = i := by simpa using ho
          subst this
          refine ⟨⟨r1.v, r1.f⟩, ?_, w1 rfl⟩
          rw [List.getElem?_set_ne (Ne.symm a3), List.getElem?_set_self (by rw [hlen]; exact a4)]
      · cases o2 with
        | false => cases ho
        | true =>
          have : o = j := by simpa using ho
          subst this
          exact ⟨⟨r2.v, r2.f⟩, by rw [List.getElem?_set_self (by rw [List.length_set, hlen]; exact a5)], w2 rfl⟩
    · exact (((h.o o ho).demote fun z => (apart_t a1 ho).1 (ht o z)).set (apart_t a1 ho).2 _).set (apart_t a2 ho).2 _
theorem newM_no (m f : Fr) : newM m f ≠ .no := by
  unfold newM
  split <;> exact fun z => by cases z
theorem ownL_of {xs : List PyData} (h : St σ vs O) (hi : i ∈ O) (e : vs[i]? = some (some (.dat (.list xs)))) : ∃ m, σ[i]? = some (some ⟨.dat (.list xs), m⟩) ∧ m ≠ .no ∧ ownL σ i = true := by
  obtain ⟨m, hm⟩ := h.v.at e
  obtain ⟨s, h1, h2⟩ := h.o i hi
  rw [hm] at h1
  have : s = ⟨.dat (.list xs), m⟩ := (Option.some.inj (Option.some.inj h1)).symm
  subst this
  refine ⟨m, hm, h2, ?_⟩
  unfold ownL
  rw [hm]
  exact decide_eq_true h2
theorem ow_keep {O' : List Nat} {t : List Nat} {s : Sl} (h : St σ vs O) (hi : i < vs.length) (hs : s.m ≠ .no) (ht : ∀ x ∈ t, x ∈ T) (ha : (O.all fun o => !T.contains o) = true) : ∀ o ∈ O, Ow ((demote t σ).set i (some s)) o := fun o ho => by
  by_cases e : o = i
  · subst e
    refine ⟨s, ?_, hs⟩
    have hlen : (demote t σ).length = vs.length := by
      have := h.v.demote t
      unfold Vw at this
      rw [← this, List.length_map]
    rw [List.getElem?_set_self (by rw [hlen]; exact hi)]
  · exact (((h.demote ht ha).o o ho)).set e _
theorem lt_of_at {α : Type} {xs : List α} {i : Nat} {x : α} (h : xs[i]? = some x) : i < xs.length := (List.getElem?_eq_some_iff.mp h).1
theorem q_app {xs : List PyData} (h : St σ vs O) (hv : vs[i]? = some (some (.dat (.list xs)))) (he : Dr Γ c1 e σ T P) (hi : (O.contains i && O.all fun o => !T.contains o) = true) (hl : xs.length < 16777216)
    (k : ∀ d σ', P d → St σ' (vs.set i (some (.dat (.list (xs ++ [d]))))) O → Wp c2 (b Γ σ') Q) : Wp (c1 + c2) (sSeq (sApp i e) b Γ σ) Q := by
  rw [Bool.and_eq_true] at hi
  have hO : i ∈ O := by simpa using hi.1
  obtain ⟨m, hm, hn, ho⟩ := ownL_of h hO hv
  unfold sSeq sApp
  rw [if_pos ho, bind_assoc']
  refine Wp.bind he fun r hr => ?_
  obtain ⟨d, h1, h2, h3⟩ := hr
  unfold appK
  rw [hm, h1]
  dsimp only
  have hnt : i ∉ r.t := fun z => by
    have := List.all_eq_true.mp hi.2 i hO
    simp at this
    exact this (h3 i z)
  rw [if_neg (fun z => by rcases z with z | z | z; exact hn z; exact hnt z; omega)]
  have v := (h.v.demote r.t).set i (some ⟨.dat (.list (xs ++ [d])), newM m r.f⟩)
  exact k d _ h2 ⟨v, ow_keep (O' := O) h (lt_of_at hv) (newM_no _ _) h3 hi.2⟩
theorem q_ext {xs : List PyData} (h : St σ vs O) (hv : vs[i]? = some (some (.dat (.list xs)))) (he : Dr Γ c1 e σ T P) (hi : (O.contains i && O.all fun o => !T.contains o) = true) (hp : ∀ d, P d → ∃ ys, d = .list ys ∧ xs.length + ys.length ≤ 16777216)
    (k : ∀ ys σ', P (.list ys) → St σ' (vs.set i (some (.dat (.list (xs ++ ys))))) O → Wp c2 (b Γ σ') Q) : Wp (c1 + c2) (sSeq (sExt i e) b Γ σ) Q := by
  rw [Bool.and_eq_true] at hi
  have hO : i ∈ O := by simpa using hi.1
  obtain ⟨m, hm, hn, ho⟩ := ownL_of h hO hv
  unfold sSeq sExt
  rw [if_pos ho, bind_assoc']
  refine Wp.bind he fun r hr => ?_
  obtain ⟨d, h1, h2, h3⟩ := hr
  obtain ⟨ys, rfl, hy⟩ := hp d h2
  unfold extK
  rw [hm, h1]
  dsimp only
  have hnt : i ∉ r.t := fun z => by
    have := List.all_eq_true.mp hi.2 i hO
    simp at this
    exact this (h3 i z)
  rw [if_neg (fun z => by rcases z with z | z | z; exact hn z; exact hnt z; omega)]
  have v := (h.v.demote r.t).set i (some ⟨.dat (.list (xs ++ ys)), newM m (if itP (.list ys) then .all else r.f)⟩)
  exact k ys _ h2 ⟨v, ow_keep (O' := O) h (lt_of_at hv) (newM_no _ _) h3 hi.2⟩
theorem q_iff {t : SemT} {a : SemS} (ht : t Γ σ = .ret false) (k : Wp c (b Γ σ) Q) : Wp c (sSeq (sIf t a sNil) b Γ σ) Q := q_eq (sIf_ff ht) k
theorem q_ift {t : SemT} {a a' : SemS} {Q1 : SD → Prop} (ht : t Γ σ = .ret true) (h : Wp c1 (a Γ σ) (NX Q1)) (k : ∀ σ', Q1 σ' → Wp c2 (b Γ σ') Q) : Wp (c1 + c2) (sSeq (sIf t a a') b Γ σ) Q :=
  q_nx (by rw [sIf_of ht, if_pos rfl]; exact h) k
theorem q_ifret {t : SemT} {a a' : SemS} (ht : t Γ σ = .ret true) (h : Wp c (a Γ σ) (RT P)) : Wp c (sSeq (sIf t a a') b Γ σ) (RT P) := by
  refine (Wp.seq (c2 := 0) (Q1 := RT P) (by rw [sIf_of ht, if_pos rfl]; exact h) fun o ho => ?_).le (Nat.le_refl _)
  obtain ⟨d, f, σ', rfl, p⟩ := ho
  exact Wp.ret ⟨d, f, σ', rfl, p⟩
theorem q_nil {Q1 : SD → Prop} (h : Q1 σ) : Wp 0 (sNil Γ σ) (NX Q1) := Wp.ret ⟨σ, rfl, h⟩
theorem St.slot (h : St σ vs O) (ha : apart O [] i = true) (d : PyData) : ∃ σ1, gSlot i d σ = .ret σ1 ∧ St σ1 (vs.set i (some (.dat d))) O :=
  ⟨_, rfl, h.v.set i _, fun o ho => (h.o o ho).set (apart_t ha ho).2 _⟩
theorem Vw.slot (h : Vw σ vs) (i : Nat) (d : PyData) : ∃ σ1, gSlot i d σ = .ret σ1 ∧ Vw σ1 (vs.set i (some (.dat d))) := ⟨_, rfl, h.set i _⟩
theorem Vw.slot2 (h : Vw σ vs) (i j : Nat) (d d' : PyData) : ∃ σ1, gTup [gSlot i, gSlot j] (.tuple [d, d']) σ = .ret σ1 ∧ Vw σ1 ((vs.set i (some (.dat d))).set j (some (.dat d'))) := ⟨_, rfl, (h.set i _).set j _⟩
theorem St.slot2 (h : St σ vs O) (ha : (apart O [] i && apart O [] j) = true) (d d' : PyData) : ∃ σ1, gTup [gSlot i, gSlot j] (.tuple [d, d']) σ = .ret σ1 ∧ St σ1 ((vs.set i (some (.dat d))).set j (some (.dat d'))) O := by
  rw [Bool.and_eq_true] at ha
  exact ⟨_, rfl, (h.v.set i _).set j _, fun o ho => ((h.o o ho).set (apart_t ha.1 ho).2 _).set (apart_t ha.2 ho).2 _⟩
theorem q_unp {P' : PyData → PyData → Prop} (h : St σ vs O) (he : Dr Γ c1 e σ T P) (ha : (apart O T i && apart O T j && apart O [] i && apart O [] j) = true) (hp : ∀ d, P d → ∃ x y, d = .tuple [x, y] ∧ P' x y)
    (k : ∀ x y σ', P' x y → St σ' ((vs.set i (some (.dat x))).set j (some (.dat y))) O → Wp c2 (b Γ σ') Q) : Wp (c1 + c2) (sSeq (sUnp (gTup [gSlot i, gSlot j]) e) b Γ σ) Q := by
  simp only [Bool.and_eq_true] at ha
  obtain ⟨⟨⟨a1, a2⟩, a3⟩, a4⟩ := ha
  unfold sSeq sUnp
  rw [bind_assoc']
  refine Wp.bind he fun r hr => ?_
  obtain ⟨d, h1, h2, h3⟩ := hr
  obtain ⟨x, y, rfl, p⟩ := hp d h2
  rw [h1]
  have hd : St (demote r.t σ) vs O := ⟨h.v.demote _, fun o ho => (h.o o ho).demote fun z => (apart_t a1 ho).1 (h3 o z)⟩
  obtain ⟨σ1, g1, g2⟩ := hd.slot2 (i := i) (j := j) (by rw [a3, a4]; rfl) x y
  dsimp only
  rw [g1]
  exact k x y σ1 p g2
theorem forGo_wp {g : SemG} {I : Nat → SD → Prop} : ∀ (items : List PyData) (k : Nat) {σ : SD}, I k σ → (∀ j x σ, items[j]? = some x → I (k + j) σ → ∃ σ1, g x σ = .ret σ1 ∧ Wp c (b Γ σ1) (NX (I (k + j + 1)))) → Wp (c * items.length) (forGo g b Γ items σ) (NX (I (k + items.length)))
  | [], k, σ, h, _ => Wp.retc ⟨σ, rfl, h⟩
  | x :: xs, k, σ, h, hb => by
    obtain ⟨σ1, h1, h2⟩ := hb 0 x σ rfl h
    unfold forGo
    rw [h1, bind_ret]
    refine (Wp.bind (c2 := c * xs.length) h2 fun o ho => ?_).mono (by rw [List.length_cons, Nat.mul_succ]; omega) fun _ z => z
    obtain ⟨σ2, rfl, h3⟩ := ho
    have := forGo_wp (I := I) (σ := σ2) xs (k + 1) h3 fun j y σ hj hI => by
      have := hb (j + 1) y σ (by simpa using hj) (by rw [show k + (j + 1) = k + 1 + j by omega]; exact hI)
      rw [show k + (j + 1) = k + 1 + j by omega] at this
      exact this
    rw [List.length_cons, show k + (xs.length + 1) = k + 1 + xs.length by omega]
    exact this
theorem q_for {g : SemG} {it : SemI} {b' : SemS} {items : List PyData} {I : Nat → SD → Prop} (hi : EvI Γ it σ items T) (h0 : ∀ ct, (∀ x ∈ ct, x ∈ T) → I 0 (demote ct σ)) (hb : ∀ k x σ, items[k]? = some x → I k σ → ∃ σ1, g x σ = .ret σ1 ∧ Wp c1 (b Γ σ1) (NX (I (k + 1))))
    (k : ∀ σ', I items.length σ' → Wp c2 (b' Γ σ') Q) : Wp (c1 * items.length + c2) (sSeq (sFor it g b) b' Γ σ) Q := by
  obtain ⟨ct, hc, hct⟩ := hi
  refine q_nx (Q1 := I items.length) ?_ k
  unfold sFor
  rw [hc, bind_ret]
  have := forGo_wp (c := c1) (b := b) (Γ := Γ) (g := g) (I := I) items 0 (h0 ct hct) fun j x σ hj hI => by
    rw [Nat.zero_add] at hI ⊢
    exact hb j x σ hj hI
  rwa [Nat.zero_add] at this
theorem q_ret (he : Dr Γ c e σ T P) : Wp c (sSeq (sRet e) b Γ σ) (RT P) := by
  unfold sSeq sRet
  rw [bind_assoc']
  refine (Wp.bind (c2 := 0) he fun r hr => ?_).le (Nat.le_refl _)
  obtain ⟨d, h1, h2, h3⟩ := hr
  rw [h1]
  exact Wp.ret ⟨d, _, _, rfl, h2⟩
theorem q_retv (h : Vw σ vs) (hv : vs[i]? = some (some (.dat d))) (p : P d) : Wp 0 (sSeq (sRetV i) b Γ σ) (RT P) := by
  obtain ⟨m, hm⟩ := h.at hv
  rw [sSeq_rt (sRetV_of hm)]
  exact Wp.ret ⟨d, _, _, rfl, p⟩
theorem Wp.callRT {np nl : Nat} {S : SemS} {xs : List Vl} (hl : xs.length = np) (h : Wp c (S Γ (startN nl xs)) (RT P)) : Wp c (DD.callS S np nl Γ xs) fun z => ∃ d f, z = (.dat d, f) ∧ P d :=
  Wp.callS hl (h.mono (Nat.le_refl _) fun o ⟨d, f, σ', e, p⟩ => ⟨.dat d, f, σ', e, d, f, rfl, p⟩)
theorem st_start {nl : Nat} {xs : List Vl} {vs : List (Option Vl)} (h : (startN nl xs).map (Option.map (·.v)) = vs) : St (startN nl xs) vs [] := ⟨h, fun _ z => by cases z⟩
/-- what draws nothing -/
theorem Wp.det {α : Type} {m : M α} {Q : α → Prop} (h : Wp 0 m Q) (hd : ∀ n k, m ≠ .draw n k) : ∃ a, m = .ret a ∧ Q a := by
  cases m with
  | ret a => exact ⟨a, rfl, (h.of 0 (Nat.le_refl _)).2⟩
  | fail => exact (h.of 0 (Nat.le_refl _)).elim
  | exc x => exact (h.of 0 (Nat.le_refl _)).elim
  | draw n k => exact absurd rfl (hd n k)
theorem Wp.det0 {α : Type} {m : M α} {Q : α → Prop} (h : Wp 0 m Q) : ∃ a, m = .ret a ∧ Q a := h.det fun n k e => by
  subst e
  obtain ⟨b', e, _⟩ := h.of 0 (Nat.le_refl _)
  omega
end
end DD
set_option Elab.async false
set_option linter.all false
set_option maxRecDepth 100000
set_option maxHeartbeats 4000000
/-! P20: the law's own defs by level: copied, same, loose. -/
namespace DD
open PySem
variable {Γ : FEnv}
theorem oEq_str (s : Str) : oEq (.str s) (.str s) = some (.bool true) := by
  unfold oEq eqOk
  have h1 : min (PyData.str s).depth (PyData.str s).depth ≤ 150 := Nat.le_trans (Nat.min_le_left _ _) (show (PyData.str s).depth ≤ 150 from Nat.zero_le _)
  simp only [PyData.plain, Bool.and_self, Bool.true_and, decide_eq_true_eq]
  rw [if_pos h1]
  show some (PyData.bool (s == s)) = _
  rw [beq_self_eq_true]
theorem same_str {i : Nat} (s : Str) : callS (S__law_same i) 2 4 Γ [.dat (.str s), .dat (.str s)] = .ret (.dat (.bool true), .all) :=
  sp_same_leaf rfl rfl rfl rfl rfl (oEq_str s)
theorem same_bool {i : Nat} (b : Bool) : callS (S__law_same i) 2 4 Γ [.dat (.bool b), .dat (.bool b)] = .ret (.dat (.bool true), .all) := by cases b <;> kernel_rfl
theorem same_none {i : Nat} : callS (S__law_same i) 2 4 Γ [.dat .none, .dat .none] = .ret (.dat (.bool true), .all) := by kernel_rfl
theorem same_dict {i : Nat} (h : Γ i [.dat (.list []), .dat (.list [])] = .ret (.dat (.bool true), .all)) : callS (S__law_same i) 2 4 Γ [.dat (.dict []), .dat (.dict [])] = .ret (.dat (.bool true), .all) := by
  let σ0 : SD := startN 4 [.dat (.dict []), .dat (.dict [])]
  have e0 : eVar 0 Γ σ0 = .ret (finV (.dat (.dict [])) [] .no) := eVar_at (s := ⟨.dat (.dict []), .no⟩) rfl
  have e1 : eVar 1 Γ σ0 = .ret (finV (.dat (.dict [])) [] .no) := eVar_at (s := ⟨.dat (.dict []), .no⟩) rfl
  have i0 : eItems (eVar 0) Γ σ0 = .ret (rP (.list [])) := by unfold eItems eMon; rw [e0]; rfl
  have i1 : eItems (eVar 1) Γ σ0 = .ret (rP (.list [])) := by unfold eItems eMon; rw [e1]; rfl
  have cl : eCall i (aCons (eItems (eVar 0)) (aCons (eItems (eVar 1)) aNil)) Γ σ0 = .ret (rP (.bool true)) := by
    rw [eCall_of (rs := [rP (.list []), rP (.list [])]) (z := (.dat (.bool true), .all)) (by unfold aCons aNil; rw [i0, i1]; rfl) h, finV_dat, fin_all]
  have c1 : tVal (eIsi (eVar 1) [.list, .tuple]) Γ σ0 = .ret false := tVal_bool (eIsi_of e1 (finV_v _ _ _))
  have c2 : tVal (eIsi (eVar 1) [.dict]) Γ σ0 = .ret true := tVal_bool (eIsi_of e1 (finV_v _ _ _))
  refine call_rt (σ := demote [] σ0) rfl ?_
  refine (sSeq_nx (sIf_ff c1)).trans (sSeq_rt ?_)
  rw [sIf_of c2, if_pos rfl]
  exact sSeq_rt (sRet_of (eAnd_tt (eIsi_of e0 (finV_v _ _ _)) cl))
/-- same by level -/
theorem lv_same {G : Nat → FEnv} {i : Nat} (hG : ∀ n xs, G (n + 1) i xs = callS (S__law_same i) 2 4 (G n) xs) {n : Nat} {d : PyData} (h : NoDic n d) : G (n + 1) i [.dat d, .dat d] = .ret (.dat (.bool true), .all) := by
  induction h with
  | none => rw [hG]; exact same_none
  | bool b => rw [hG]; exact same_bool b
  | dict => rw [hG]; refine same_dict ?_; rw [hG]; exact sp_same_seq (.inl rfl) (Nat.zero_le _) fun x hx => by cases hx
  | int a => rw [hG]; exact same_int a
  | str s => rw [hG]; exact same_str s
  | list h hl ih => rw [hG]; exact sp_same_seq (.inl rfl) hl ih
  | tuple h hl ih => rw [hG]; exact sp_same_seq (.inr rfl) hl ih
theorem NoDic.up {n : Nat} {d : PyData} (h : NoDic n d) : NoDic (n + 1) d := by
  induction h with
  | none => exact .none
  | bool b => exact .bool b
  | dict => exact .dict
  | int a => exact .int a
  | str s => exact .str s
  | list h hl ih => exact .list ih hl
  | tuple h hl ih => exact .tuple ih hl
theorem NoDic.le {n m : Nat} {d : PyData} (h : NoDic n d) (hm : n ≤ m) : NoDic m d := by
  induction hm with
  | refl => exact h
  | step _ ih => exact ih.up
theorem sRetT_of {i : Nat} {σ : SD} {xs : List PyData} {m : Fr} (h : σ[i]? = some (some ⟨.dat (.list xs), m⟩)) : ∃ f, sRetT i Γ σ = .ret (.rt (.dat (.tuple xs)) f (σ.set i none)) ∧ (m = .all → f = .all) := by
  unfold sRetT
  rw [h]
  exact ⟨_, rfl, fun e => by subst e; rfl⟩
/-- a leaf copied -/
theorem sp_copied_leaf {i : Nat} {d : PyData} (h1 : [Ty.dict].any (isTy d) = false) (h2 : [Ty.list, Ty.tuple].any (isTy d) = false) (h3 : [Ty.tuple].any (isTy d) = false) (hp : pur d = true) : callS (S__law_copied i) 1 4 Γ [.dat d] = .ret (.dat d, .all) := by
  let σ0 : SD := startN 4 [.dat d]
  have e0 : eVar 0 Γ σ0 = .ret (rP d) := by rw [eVar_at (s := ⟨.dat d, .no⟩) rfl, finV_dat, fin_pur hp]
  let σ1 : SD := [some ⟨.dat d, .no⟩, some ⟨.dat d, .all⟩, none, none]
  have e0' : eVar 0 Γ σ1 = .ret (rP d) := by rw [eVar_at (s := ⟨.dat d, .no⟩) rfl, finV_dat, fin_pur hp]
  have c0 : tVal (eIsi (eVar 0) [.dict]) Γ σ0 = .ret false := by
    have := tVal_bool (eIsi_of (ts := [.dict]) e0 rfl)
    rwa [h1] at this
  have c1 : sSet 1 (eIf (tVal (eIsi (eVar 0) [.list, .tuple])) (eLc [3] (iVal (eVar 0)) (gSlot 3) tYesD (eCall i (aCons (eVar 3) aNil))) (eVar 0)) Γ σ0 = .ret (.nx σ1) := by
    rw [sSet_rP (d := d)]
    · rfl
    · unfold eIf
      have := tVal_bool (eIsi_of (ts := [.list, .tuple]) e0 rfl)
      rw [h2] at this
      rw [this, bind_ret, if_neg (by simp), e0]
  have c2 : tVal (eIsi (eVar 0) [.tuple]) Γ σ1 = .ret false := by
    have := tVal_bool (eIsi_of (ts := [.tuple]) e0' rfl)
    rwa [h3] at this
  exact call_rt rfl ((sSeq_nx (sIf_ff c0)).trans ((sSeq_nx c1).trans (sSeq_rt (by rw [sIf_of c2, if_neg (by simp)]; exact sRetV_of (s := ⟨.dat d, .all⟩) rfl))))
theorem sp_copied_dict {i : Nat} : callS (S__law_copied i) 1 4 Γ [.dat (.dict [])] = .ret (.dat (.dict []), .all) := by kernel_rfl
/-- a list or a tuple copied -/
theorem sp_copied_seq {i : Nat} {d : PyData} {xs : List PyData} (hs : Sq d xs) (hl : xs.length ≤ 16777216) (h : ∀ x ∈ xs, Γ i [.dat x] = .ret (.dat x, .all)) : callS (S__law_copied i) 1 4 Γ [.dat d] = .ret (.dat d, .all) := by
  let σ0 : SD := startN 4 [.dat d]
  have e0 : eVar 0 Γ σ0 = .ret (finV (.dat d) [] .no) := eVar_at (s := ⟨.dat d, .no⟩) rfl
  have it : iVal (eVar 0) Γ σ0 = .ret (xs.map id, []) := by rw [sq_iVal e0 (finV_v _ _ _) hs, finV_t0, List.map_id]
  have lc := eLc_map (own := [3]) (g := gSlot 3) (e := eCall i (aCons (eVar 3) aNil)) (V := id) it hl fun x hx => by
    let m : Fr := if pur x then .all else .no
    let σ1 : SD := [some ⟨.dat d, .no⟩, none, none, some ⟨.dat x, m⟩]
    have e3 : eVar 3 Γ σ1 = .ret (finV (.dat x) (if m = .no then [] else [3]) .no) := eVar_at (s := ⟨.dat x, m⟩) rfl
    refine ⟨σ1, by rw [demote_nil]; rfl, ?_⟩
    rw [eCall_of (rs := [finV (.dat x) (if m = .no then [] else [3]) .no]) (z := (.dat x, .all)) (by unfold aCons aNil; rw [e3]; rfl) (by
      show Γ i [(finV (.dat x) _ _).v] = _
      rw [finV_v]; exact h x hx), finV_dat, fin_all]
    rfl
  rw [List.map_id] at lc
  let σ1 : SD := [some ⟨.dat d, .no⟩, some ⟨.dat (.list xs), .all⟩, none, none]
  have c0 : tVal (eIsi (eVar 0) [.dict]) Γ σ0 = .ret false := by
    have := tVal_bool (eIsi_of (ts := [.dict]) e0 (finV_v _ _ _))
    rw [this]
    rcases hs with rfl | rfl <;> rfl
  have c1 : sSet 1 (eIf (tVal (eIsi (eVar 0) [.list, .tuple])) (eLc [3] (iVal (eVar 0)) (gSlot 3) tYesD (eCall i (aCons (eVar 3) aNil))) (eVar 0)) Γ σ0 = .ret (.nx σ1) := by
    rw [sSet_rP (d := .list xs)]
    · rfl
    · unfold eIf
      have := tVal_bool (eIsi_of (ts := [.list, .tuple]) e0 (finV_v _ _ _))
      rw [this, bind_ret, if_pos (by rcases hs with rfl | rfl <;> rfl), lc]
  have q0 : eVar 0 Γ σ1 = .ret (finV (.dat d) [] .no) := eVar_at (s := ⟨.dat d, .no⟩) rfl
  have c2 := tVal_bool (eIsi_of (ts := [.tuple]) q0 (finV_v _ _ _))
  refine call_rt (σ := σ1.set 1 none) rfl ((sSeq_nx (sIf_ff c0)).trans ((sSeq_nx c1).trans (sSeq_rt ?_)))
  rw [sIf_of c2]
  rcases hs with rfl | rfl
  · exact sRetV_of (Γ := Γ) (i := 1) (σ := σ1) (s := ⟨.dat (.list xs), .all⟩) rfl
  · obtain ⟨f, h1, h2⟩ := sRetT_of (Γ := Γ) (i := 1) (σ := σ1) (xs := xs) (m := .all) rfl
    rw [h2 rfl] at h1
    exact h1
/-- copied by level: all its own -/
theorem lv_copied {G : Nat → FEnv} {i : Nat} (hG : ∀ n xs, G (n + 1) i xs = callS (S__law_copied i) 1 4 (G n) xs) {n : Nat} {d : PyData} (h : NoDic n d) : G (n + 1) i [.dat d] = .ret (.dat d, .all) := by
  induction h with
  | none => rw [hG]; exact sp_copied_leaf rfl rfl rfl rfl
  | bool b => rw [hG]; exact sp_copied_leaf rfl rfl rfl rfl
  | dict => rw [hG]; exact sp_copied_dict
  | int a => rw [hG]; exact sp_copied_leaf rfl rfl rfl rfl
  | str s => rw [hG]; exact sp_copied_leaf rfl rfl rfl rfl
  | list h hl ih => rw [hG]; exact sp_copied_seq (.inl rfl) hl ih
  | tuple h hl ih => rw [hG]; exact sp_copied_seq (.inr rfl) hl ih
/-- loose: a leaf -/
theorem sp_loose_int {i k : Nat} (a : Int) : Wp 0 (callS (S__law_loose i k) 2 4 Γ [.strm, .dat (.int a)]) fun z => ∃ d f, z = (.dat d, f) ∧ d = .int a := by
  refine Wp.callRT rfl ?_
  have s0 : St (startN 4 [.strm, .dat (.int a)]) [some .strm, some (.dat (.int a)), none, none] [] := st_start rfl
  exact q_ifret (tNot_of (ev_tval (k := false) (ev_un (s0.v.ev (i := 1) rfl) rfl))) (q_retv s0.v (i := 1) rfl rfl)
/-- loose: a list or a tuple -/
theorem sp_loose_seq {i k c : Nat} {P : PyData → PyData → Prop} (hd : ∀ xs, Γ k xs = DD.drawM xs) {d : PyData} {xs : List PyData} (hs : Sq d xs) (hl : xs.length ≤ 16777216) (h : ∀ x ∈ xs, Wp c (Γ i [.strm, .dat x]) fun z => ∃ d f, z = (.dat d, f) ∧ P x d) :
    Wp (c * xs.length + 1) (callS (S__law_loose i k) 2 4 Γ [.strm, .dat d]) fun z => ∃ d f, z = (.dat d, f) ∧ ∃ ys, Sq d ys ∧ All2 P xs ys := by
  refine Wp.callRT rfl ?_
  have s0 : St (startN 4 [.strm, .dat d]) [some .strm, some (.dat d), none, none] [] := st_start rfl
  have ty : [Ty.list, Ty.tuple].any (isTy d) = true := by rcases hs with rfl | rfl <;> rfl
  refine q_iff (tNot_of (c := true) (ev_tval (ev_un (s0.v.ev (i := 1) rfl) (by show some (PyData.bool ([Ty.list, Ty.tuple].any (isTy d))) = _; rw [ty])))) ?_
  refine q_set (c2 := 1) s0 (dr_lc1 (Γ := Γ) (own := [3]) (g := gSlot 3) (e := eCall i (aCons (eVar 0) (aCons (eVar 3) aNil))) (T' := [3]) (Y := P) s0.v (ei_val (s0.v.ev (i := 1) rfl) hs) hl fun x hx σ0 h0 => ?_) rfl fun e σ1 he s1 => ?_
  · obtain ⟨σ1, g1, g2⟩ := h0.slot 3 x
    exact ⟨σ1, g1, dr_call (eva_strm g2 rfl (eva_cons (g2.ev rfl) eva_nil)) (h x hx)⟩
  · obtain ⟨ys, rfl, h2⟩ := he
    refine (Wp.seq (c2 := 0) (Q1 := RT fun d => ∃ ys, Sq d ys ∧ All2 P xs ys) ?_ fun o ho => ?_).le (Nat.le_refl _)
    · unfold sIf
      refine (Wp.bind (c2 := 0) (dr_drawEq (m := 2) 0 hd s1.v rfl (ev_c (.int 2)) (by decide) (by decide)) fun k _ => ?_).le (Nat.le_refl _)
      obtain ⟨m, hm⟩ := s1.v.at (i := 2) (v := .dat (.list ys)) rfl
      cases k with
      | true =>
        obtain ⟨f, hf, _⟩ := sRetT_of (Γ := Γ) hm
        rw [if_pos rfl, hf]
        exact Wp.ret ⟨_, _, _, rfl, ys, .inr rfl, h2⟩
      | false =>
        rw [if_neg (by simp), sRetV_of hm]
        exact Wp.ret ⟨_, _, _, rfl, ys, .inl rfl, h2⟩
    · obtain ⟨d, f, σ', rfl, p⟩ := ho
      exact Wp.ret ⟨d, f, σ', rfl, p⟩
end DD
set_option Elab.async false
set_option linter.all false
set_option maxRecDepth 100000
set_option maxHeartbeats 4000000
/-! P21: the law's own defs: at, step, mixed. -/
namespace DD
open PySem
variable {Γ : FEnv}
theorem iL_at {ns : List Int} {j : Nat} {x : PyData} (h : (iL ns)[j]? = some x) : ∃ n, ns[j]? = some n ∧ x = .int n := by
  rw [List.getElem?_map] at h
  cases e : ns[j]? with
  | none => rw [e] at h; cases h
  | some b => rw [e] at h; exact ⟨b, rfl, (Option.some.inj h).symm⟩
theorem iL_get {ns : List Int} {i : Int} (h0 : 0 ≤ i) (h1 : i < ns.length) : (iL ns)[i.toNat]? = some (.int (ns.getD i.toNat 0)) := by
  have hi : i.toNat < ns.length := by omega
  rw [List.getElem?_map, List.getElem?_eq_getElem hi, List.getD_eq_getElem?_getD, List.getElem?_eq_getElem hi]
  rfl
theorem sp_law_at {p sd : PyData} {s : List Int} {n : List Int × List Int} (hp : PairD p n) (hsd : Sq sd (iL s)) (ok : StepOk n s) : ∃ f, callS S__law_e_at 2 4 Γ [.dat p, .dat sd] = .ret (.dat (.int (valD n s)), f) := by
  obtain ⟨a, b, hq, ha, hb⟩ := hp
  obtain ⟨o1, o2, o3, o4⟩ := ok
  have w : Wp 0 (callS S__law_e_at 2 4 Γ [.dat p, .dat sd]) fun z => ∃ e f, z = (.dat e, f) ∧ e = .int (valD n s) := by
    refine Wp.callRT rfl ?_
    have s0 : St (startN 4 [.dat p, .dat sd]) [some (.dat p), some (.dat sd), none, none] [] := st_start rfl
    refine q_set0 s0 (ev_c (.int 0)) rfl fun σ1 s1 => ?_
    let nm : Nat → Int := fun k => numD ((n.1.take k).map fun h => s.getD h.toNat 0)
    refine (q_for (c1 := 0) (c2 := 0) (T := [0]) (I := fun k σ => ∃ o, Vw σ [some (.dat p), some (.dat sd), some (.dat (.int (nm k))), o]) (ei_val (ev_ix (s1.v.ev (i := 0) rfl) hq (ev_c (.int 0)) (by decide) rfl) ha) (fun ct _ => ⟨none, s1.v.demote ct⟩) (fun k x σ hx hI => ?_) fun σ' hI => ?_).le (by omega)
    · obtain ⟨o, v⟩ := hI
      obtain ⟨h, hh, rfl⟩ := iL_at hx
      obtain ⟨σ1, g1, g2⟩ := v.slot 3 (.int h)
      refine ⟨σ1, g1, ?_⟩
      obtain ⟨h0, h1⟩ := o1 h (List.mem_of_getElem? hh)
      have hix := ev_ix (Γ := Γ) (g2.ev (i := 1) (d := sd) rfl) hsd (g2.ev (i := 3) (d := .int h) rfl) h0 (iL_get h0 h1)
      have hm := ev_mul (Γ := Γ) (ev_c (.int 2)) (g2.ev (i := 2) (d := .int (nm k)) rfl) rfl
      have st : St σ1 _ [] := ⟨g2, fun _ z => by cases z⟩
      refine q_set0 st (ev_add hm hix) rfl fun σ2 s2 => q_nil ⟨some (.dat (.int h)), ?_⟩
      have e : nm (k + 1) = 2 * nm k + s.getD h.toNat 0 := by
        show numD ((n.1.take (k + 1)).map _) = _
        rw [List.take_succ, hh]
        show numD ((n.1.take k ++ [h]).map _) = _
        rw [List.map_append, List.map_cons, List.map_nil, numD_snoc]
      rw [e]
      exact s2.v
    · obtain ⟨o, v⟩ := hI
      have e : nm (iL n.1).length = numD (n.1.map fun h => s.getD h.toNat 0) := by
        show numD ((n.1.take (iL n.1).length).map _) = _
        rw [List.length_map, List.take_length]
      rw [e] at v
      exact q_ret ((ev_ix (ev_ix (v.ev (i := 0) rfl) hq (ev_c (.int 1)) (by decide) rfl) hb (v.ev (i := 2) rfl) o2 (iL_get o2 o3)).dr rfl)
  obtain ⟨z, h, e, f, rfl, rfl⟩ := w.det0
  exact ⟨f, h⟩
theorem All2.map_eq {α β γ : Type} {P : α → β → Prop} {f : α → γ} {g : β → γ} {as : List α} {bs : List β} (h : All2 P as bs) (e : ∀ a b, a ∈ as → b ∈ bs → P a b → f a = g b) : as.map f = bs.map g := by
  induction h with
  | nil => rfl
  | cons p _ ih =>
    rw [List.map_cons, List.map_cons, e _ _ List.mem_cons_self List.mem_cons_self p, ih fun a b ha hb => e a b (List.mem_cons_of_mem _ ha) (List.mem_cons_of_mem _ hb)]
theorem All2.mem {α β : Type} {P : α → β → Prop} {as : List α} {bs : List β} (h : All2 P as bs) {a : α} (ha : a ∈ as) : ∃ b, b ∈ bs ∧ P a b := by
  induction h with
  | nil => cases ha
  | cons p _ ih =>
    rcases List.mem_cons.mp ha with rfl | ha
    · exact ⟨_, List.mem_cons_self, p⟩
    · obtain ⟨b, hb, q⟩ := ih ha
      exact ⟨b, List.mem_cons_of_mem _ hb, q⟩
theorem All2.memr {α β : Type} {P : α → β → Prop} {as : List α} {bs : List β} (h : All2 P as bs) {b : β} (hb : b ∈ bs) : ∃ a, a ∈ as ∧ P a b := by
  induction h with
  | nil => cases hb
  | cons p _ ih =>
    rcases List.mem_cons.mp hb with rfl | hb
    · exact ⟨_, List.mem_cons_self, p⟩
    · obtain ⟨a, ha, q⟩ := ih hb
      exact ⟨a, List.mem_cons_of_mem _ ha, q⟩
/-- a net's own form: a list of pairs of lists -/
def lP (n : List Int × List Int) : PyData := .tuple [lI n.1, lI n.2]
def lN (nt : NetT) : PyData := .list (nt.map lP)
theorem pairD_lP (n : List Int × List Int) : PairD (lP n) n := ⟨_, _, .inr rfl, .inl rfl, .inl rfl⟩
theorem netD_lN (nt : NetT) : NetD (lN nt) nt := by
  refine ⟨_, .inl rfl, ?_⟩
  induction nt with
  | nil => exact .nil
  | cons n nt ih => exact .cons (pairD_lP n) ih
theorem sp_law_step {iA : Nat} {nt : NetT} {s : List Int} (hl : nt.length ≤ 16777216) (h : ∀ n ∈ nt, ∃ f, Γ iA [.dat (lP n), .dat (lI s)] = .ret (.dat (.int (valD n s)), f)) : ∃ f, callS (S__law_e_step iA) 2 3 Γ [.dat (lN nt), .dat (lI s)] = .ret (.dat (lI (stepN nt s)), f) := by
  have w : Wp 0 (callS (S__law_e_step iA) 2 3 Γ [.dat (lN nt), .dat (lI s)]) fun z => ∃ e f, z = (.dat e, f) ∧ e = lI (stepN nt s) := by
    refine Wp.callRT rfl ?_
    have s0 : St (startN 3 [.dat (lN nt), .dat (lI s)]) [some (.dat (lN nt)), some (.dat (lI s)), none] [] := st_start rfl
    have := dr_lc1 (Γ := Γ) (c := 0) (own := [2]) (g := gSlot 2) (e := eCall iA (aCons (eVar 2) (aCons (eVar 1) aNil))) (T' := [2, 1]) (Y := fun x d => ∀ n, x = lP n → d = .int (valD n s)) s0.v (ei_val (s0.v.ev (i := 0) rfl) (.inl rfl)) (by rw [List.length_map]; exact hl) fun x hx σ0 h0 => by
      obtain ⟨n, hn, rfl⟩ := List.mem_map.mp hx
      obtain ⟨σ1, g1, g2⟩ := h0.slot 2 (lP n)
      obtain ⟨f, hf⟩ := h n hn
      refine ⟨σ1, g1, (ev_call (eva_cons (g2.ev rfl) (eva_cons (g2.ev rfl) eva_nil)) hf).dr fun m hm => ?_⟩
      have : n = m := by
        obtain ⟨a, b⟩ := n
        obtain ⟨a', b'⟩ := m
        unfold lP lI iL at hm
        injection hm with hm
        injection hm with h1 h2
        injection h2 with h2
        injection h1 with h1
        injection h2 with h2
        have inj : ∀ x y : Int, PyData.int x = PyData.int y → x = y := fun x y e => by injection e
        exact Prod.ext (List.map_inj_right inj |>.mp h1) (List.map_inj_right inj |>.mp h2)
      rw [this]
    rw [Nat.zero_mul] at this
    refine q_ret (this.mono (Nat.le_refl _) fun d hd => ?_)
    obtain ⟨ds, rfl, h2⟩ := hd
    have : ds = iL (stepN nt s) := by
      clear h
      have go : ∀ {nt : NetT} {ds : List PyData}, All2 (fun x d => ∀ n, x = lP n → d = .int (valD n s)) (nt.map lP) ds → ds = iL (stepN nt s) := by
        intro nt
        induction nt with
        | nil => intro ds h; cases h; rfl
        | cons n nt ih =>
          intro ds h
          cases h with
          | cons a r =>
            rw [a n rfl, ih r]
            rfl
      exact go h2
    rw [this]
    rfl
  obtain ⟨z, h, e, f, rfl, rfl⟩ := w.det0
  exact ⟨f, h⟩
/-! mixed -/
theorem getElem_cons_erase {α : Type} : ∀ {l : List α} {i : Nat} (h : i < l.length), (l[i] :: l.eraseIdx i).Perm l
  | x :: xs, 0, _ => .refl _
  | x :: xs, i + 1, h => by
    have hi : i < xs.length := by simpa using h
    show (xs[i] :: x :: xs.eraseIdx i).Perm (x :: xs)
    exact (List.Perm.swap x xs[i] _).trans ((getElem_cons_erase (l := xs) hi).cons x)
theorem perm_take {α : Type} {l f : List α} {i : Nat} (h : i < l.length) : (l.eraseIdx i ++ (f ++ [l[i]])).Perm (l ++ f) := by
  have e := getElem_cons_erase h
  have a : (l.eraseIdx i ++ (f ++ [l[i]])).Perm ((f ++ [l[i]]) ++ l.eraseIdx i) := List.perm_append_comm
  refine a.trans ?_
  rw [List.append_assoc]
  show (f ++ (l[i] :: l.eraseIdx i)).Perm (l ++ f)
  exact (List.Perm.append_left f e).trans List.perm_append_comm
theorem iL_eraseIdx (l : List Int) (i : Nat) : (iL l).eraseIdx i = iL (l.eraseIdx i) := by
  unfold iL
  induction l generalizing i with
  | nil => rfl
  | cons x xs ih =>
    cases i with
    | zero => rfl
    | succ i =>
      show PyData.int x :: (xs.map PyData.int).eraseIdx i = _ :: _
      rw [ih]
theorem sp_mixed {iD : Nat} (hd : ∀ xs, Γ iD xs = DD.drawM xs) {d : PyData} {xs : List Int} (hs : Sq d (iL xs)) (hl : xs.length < 1000000) : Wp xs.length (callS (S__law_mixed iD) 2 5 Γ [.strm, .dat d]) fun z => ∃ d f, z = (.dat d, f) ∧ ∃ ys, d = .list (iL ys) ∧ ys.Perm xs := by
  refine Wp.callRT rfl ?_
  have s0 : St (startN 5 [.strm, .dat d]) [some .strm, some (.dat d), none, none, none] [] := st_start rfl
  have own : DrO Γ 0 (eList (eVar 1)) (startN 5 [.strm, .dat d]) [] true fun d => d = .list (iL xs) := by
    have e1 := eVar_at (Γ := Γ) (σ := startN 5 [.strm, .dat d]) (i := 1) (s := ⟨.dat d, .no⟩) rfl
    have ip : itP (.list (iL xs)) = true := purL_iL xs
    refine dro_rP (d := .list (iL xs)) ?_ rfl
    unfold eList eMon
    rw [e1, bind_ret]
    unfold listK
    rw [finV_v]
    rcases hs with rfl | rfl <;> (dsimp only; unfold subF; rw [if_pos ip, fin_all])
  refine (q_par2 (c1 := 0) (c2 := 0) (c := xs.length) (o2 := true) (P2 := fun d => d = .list []) s0 own (dro_rP rfl rfl) rfl fun d1 d2 σ1 h1 h2 s1 => ?_).le (by omega)
  subst h1 h2
  refine (q_for (c1 := 1) (c2 := 0) (I := fun k σ => ∃ l f o, St σ [some .strm, some (.dat d), some (.dat (.list (iL l))), some (.dat (.list (iL f))), o] [2, 3] ∧ (l ++ f).Perm xs ∧ f.length = k)
    (ei_rg (n := (iL xs).length) (ev_len (s1.v.ev (i := 2) rfl) (.inl rfl)) (by rw [List.length_map]; omega)) (fun ct hct => ⟨xs, [], none, s1.demote hct rfl, by rw [List.append_nil], rfl⟩) (fun k x σ hx hI => ?_) fun σ' hI => ?_).le (by simp [rangeD])
  · obtain ⟨l, f, o, st, pm, fl⟩ := hI
    obtain ⟨σ1, g1, g2⟩ := st.slot (i := 4) rfl x
    refine ⟨σ1, g1, ?_⟩
    have hk : k < xs.length := by
      have := lt_of_at hx
      simpa [rangeD] using this
    have ll : l.length = xs.length - k := by
      have := pm.length_eq
      rw [List.length_append] at this
      omega
    have cl : Dr Γ 1 (eCall iD (aCons (eVar 0) (aCons (eLen (eVar 2)) aNil))) σ1 [] fun d => ∃ j : Nat, j < l.length ∧ d = .int j := by
      refine dr_call (eva_strm g2.v rfl (eva_cons (ev_len (g2.v.ev (i := 2) rfl) (.inl rfl)) eva_nil)) ?_
      rw [List.length_map]
      exact (Wp.drawM (m := l.length) hd (by omega) (by omega)).mono (Nat.le_refl _) fun z ⟨j, hj, hz⟩ => ⟨_, _, hz, j, hj, rfl⟩
    refine (q_nx (c2 := 0) (Q1 := fun σ' => ∃ l f o, St σ' [some .strm, some (.dat d), some (.dat (.list (iL l))), some (.dat (.list (iL f))), o] [2, 3] ∧ (l ++ f).Perm xs ∧ f.length = k + 1) ?_ fun σ2 q => q_nil q).le (Nat.le_refl _)
    obtain ⟨m2, hm2, hn2, ho2⟩ := ownL_of g2 (i := 2) (by simp) rfl
    obtain ⟨m3, hm3, hn3, ho3⟩ := ownL_of g2 (i := 3) (by simp) rfl
    unfold sAppPop
    rw [ho2, ho3, if_pos (by rfl)]
    refine (Wp.bind (c2 := 0) cl fun r hr => ?_).le (Nat.le_refl _)
    obtain ⟨_, h1, ⟨j, hj, rfl⟩, h3⟩ := hr
    unfold appPopK
    rw [hm2, hm3, h1]
    dsimp only
    rw [if_neg (fun z => by
      rcases z with z | z | z | z | z
      · exact hn3 z
      · exact hn2 z
      · cases z
      · rw [List.length_map] at z; omega
      · unfold small62 at z; simp at z; omega)]
    have hix : ixD (iL l).length (j : Int) = some j := by
      unfold ixD
      rw [List.length_map, if_pos (by omega), if_pos (by omega)]
      simp
    rw [hix]
    dsimp only
    have hat : (iL l)[j]? = some (.int l[j]) := by rw [List.getElem?_map, List.getElem?_eq_getElem hj]; rfl
    rw [hat]
    dsimp only
    refine Wp.ret ⟨_, rfl, l.eraseIdx j, f ++ [l[j]], some (.dat x), ⟨?_, ?_⟩, (perm_take hj).trans pm, by simp [fl]⟩
    · have := (g2.v.set 2 (some ⟨.dat (.list ((iL l).eraseIdx j)), m2⟩)).set 3 (some ⟨.dat (.list (iL f ++ [.int l[j]])), newM m3 (popF m2 (.int l[j]))⟩)
      rw [iL_eraseIdx, show iL f ++ [PyData.int l[j]] = iL (f ++ [l[j]]) by simp] at this
      rw [iL_eraseIdx, show iL f ++ [PyData.int l[j]] = iL (f ++ [l[j]]) by simp]
      exact this
    · have hlen : σ1.length = 5 := by
        have := g2.v
        unfold Vw at this
        rw [← List.length_map, this]
        rfl
      intro o ho
      rcases List.mem_cons.mp ho with rfl | ho
      · refine ⟨⟨.dat (.list ((iL l).eraseIdx j)), m2⟩, ?_, hn2⟩
        rw [List.getElem?_set_ne (by decide), List.getElem?_set_self (by rw [hlen]; decide)]
      · rcases List.mem_cons.mp ho with rfl | ho
        · exact ⟨_, List.getElem?_set_self (by rw [List.length_set, hlen]; decide), newM_no _ _⟩
        · cases ho
  · obtain ⟨l, f, o, st, pm, fl⟩ := hI
    have : l = [] := by
      have e := pm.length_eq
      rw [List.length_append, fl] at e
      have : (rangeD 0 (iL xs).length).length = xs.length := by simp [rangeD]
      exact List.length_eq_zero_iff.mp (by omega)
    subst this
    exact q_retv st.v (i := 3) rfl ⟨f, rfl, pm⟩
end DD
set_option Elab.async false
set_option linter.all false
set_option maxRecDepth 100000
set_option maxHeartbeats 4000000
/-! P22: sorted whole numbers, cuts. -/
namespace DD
open PySem
variable {Γ : FEnv} {σ : SD}
def srt (zs : List Int) : List Int := zs.mergeSort fun a b => decide (a ≤ b)
theorem srt_perm (zs : List Int) : (srt zs).Perm zs := List.mergeSort_perm _ _
theorem srt_le (zs : List Int) : (srt zs).Pairwise (· ≤ ·) := by
  have := List.pairwise_mergeSort (le := fun a b : Int => decide (a ≤ b)) (fun a b c h1 h2 => by simp at *; omega) (fun a b => by simp; omega) zs
  exact this.imp fun h => by simpa using h
theorem sortD_iL (zs : List Int) : sortD (iL zs) = iL (srt zs) := by
  unfold sortD sortIx
  rw [List.map_mergeSort (r := PySem.W.dataLe false fun i => (iL zs).getD i PyData.none) (s := PySem.W.dataLe false fun x : PyData => x) (f := fun i => (iL zs).getD i PyData.none) (fun a _ b _ => rfl), map_getD]
  unfold iL srt
  refine (List.map_mergeSort (f := PyData.int) fun a _ b _ => ?_).symm
  have := congrFun (congrFun (PySem.W.dataLe_int fun x : Int => x) a) b
  exact this.symm
theorem sortOk_iL (zs : List Int) : sortOk (iL zs) = true := by
  unfold sortOk
  have h1 : PyData.plainAll (iL zs) = true := by
    induction zs with
    | nil => rfl
    | cons z zs ih =>
      show (PyData.plain (.int z) && PyData.plainAll (iL zs)) = true
      rw [ih]
      rfl
  have h2 : ((iL zs).all fun d => (iL zs).all fun e => PySem.W.alike d e) = true := by
    simp [List.all_eq_true, iL]
    intro a _ b _
    rfl
  have h3 : (iL zs).all othN = true := by
    simp [List.all_eq_true, iL]
    intro a _
    rfl
  have h4 : ((iL zs).all fun d => decide (d.depth ≤ 150)) = true := by
    simp [List.all_eq_true, iL]
    intro a _
    exact (show (PyData.int a).depth ≤ 150 from Nat.zero_le _)
  rw [h1, h2, h3, h4]
  simp
theorem sortedK2_iL {x : R} {zs : List Int} (h : x.v = .dat (lI zs)) (hl : zs.length ≤ 16777216) : sortedK2 x = .ret (rP (lI (srt zs))) := by
  have e : sortedK2 x = sortedK x := by unfold sortedK2; rw [h]; rfl
  rw [e]
  unfold sortedK
  rw [h]
  show (if sortOk (iL zs) && decide ((iL zs).length ≤ 16777216) then M.ret (fin (.list (sortD (iL zs))) x.t (subF x (.list (iL zs)))) else .fail) = _
  rw [sortOk_iL, if_pos (by simp [hl]), sortD_iL]
  have ip : itP (.list (iL zs)) = true := purL_iL zs
  unfold subF
  rw [if_pos ip, fin_all]
  rfl
theorem ev_sorted {a : SemE} {T : List Nat} {zs : List Int} (h : Ev Γ a σ (lI zs) T) (hl : zs.length ≤ 16777216) : Ev Γ (eSorted2 a) σ (lI (srt zs)) [] :=
  ev_mon h fun x hx _ => ⟨_, sortedK2_iL hx hl, rfl, fun _ z => z⟩
theorem dr_sorted {c : Nat} {a : SemE} {T : List Nat} {P : List Int → Prop} (h : Dr Γ c a σ T fun d => ∃ zs, d = lI zs ∧ zs.length ≤ 16777216 ∧ P zs) : Dr Γ c (eSorted2 a) σ [] fun d => ∃ zs, d = lI (srt zs) ∧ P zs :=
  dr_mon h fun x d hx hp _ => by
    obtain ⟨zs, rfl, hl, p⟩ := hp
    exact ⟨_, _, sortedK2_iL hx hl, rfl, ⟨zs, rfl, p⟩, fun _ z => z⟩
theorem cutHi (xs : List PyData) (k : Nat) : cutD xs none (some (k : Int)) = xs.take k := by
  unfold cutD
  rw [HT.sIx_none, HT.sIx_nat, List.drop_zero, Nat.sub_zero]
  rw [List.take_eq_take_iff]
  omega
theorem dr_slHi {c k : Nat} {a b : SemE} {T T' : List Nat} {P : List Int → Prop} (h : Dr Γ c a σ T fun d => ∃ zs, d = lI zs ∧ P zs) (hb : Ev Γ b σ (.int k) T') : Dr Γ c (eSl a oNone (oSome b)) σ T fun d => ∃ zs, d = lI (zs.take k) ∧ P zs := by
  obtain ⟨y, g1, g2, _⟩ := hb
  unfold Dr eSl
  refine (Wp.bind (c2 := 0) h fun x hx => ?_).le (Nat.le_refl _)
  obtain ⟨_, h1, ⟨zs, rfl, p⟩, h3⟩ := hx
  unfold oNone oSome
  rw [bind_ret, g1, bind_ret, g2, ]
  dsimp only
  rw [bind_ret]
  unfold slK
  rw [h1]
  show Wp 0 (M.ret (fin (.list (cutD (iL zs) none (some (k : Int)))) x.t _)) _
  rw [cutHi]
  refine Wp.ret ⟨lI (zs.take k), ?_, ⟨zs, rfl, p⟩, fun t ht => h3 t (fin_t _ _ _ t ht)⟩
  rw [fin_v]
  unfold lI iL
  rw [List.map_take]
def rI (n : Nat) : List Int := (List.range n).map fun i : Nat => (i : Int)
theorem rangeD_rI (n : Nat) : rangeD 0 n = iL (rI n) := by
  unfold rangeD rI iL
  rw [List.map_map]
  apply List.map_congr_left
  intro i _
  show PyData.int (0 + (i : Int)) = .int (i : Int)
  rw [Int.zero_add]
theorem rI_len (n : Nat) : (rI n).length = n := by simp [rI]
theorem rI_nodup (n : Nat) : (rI n).Nodup := by
  unfold rI
  rw [List.Nodup, List.pairwise_map]
  exact List.Pairwise.imp (fun h e => h (by omega)) (List.nodup_range (n := n))
theorem rI_mem {n : Nat} {x : Int} : x ∈ rI n ↔ 0 ≤ x ∧ x < n := by
  unfold rI
  rw [List.mem_map]
  constructor
  · rintro ⟨i, hi, rfl⟩
    have := List.mem_range.mp hi
    omega
  · intro h
    exact ⟨x.toNat, List.mem_range.mpr (by omega), by omega⟩
theorem ascD_of : ∀ {ns : List Int}, ns.Pairwise (· < ·) → ascD ns = true
  | [], _ => rfl
  | [_], _ => rfl
  | a :: b :: ns, h => by
    have h1 : a < b := (List.pairwise_cons.mp h).1 b List.mem_cons_self
    have h2 := ascD_of (List.pairwise_cons.mp h).2
    unfold ascD at *
    show (decide (a < b) && _) = true
    rw [decide_eq_true h1]
    exact h2
/-- sorted places, none twice -/
theorem okH_srt {zs : List Int} {m most : Nat} (hn : zs.Nodup) (hz : ∀ z ∈ zs, 0 ≤ z ∧ z < m) (hl : zs.length ≤ most) : okH m most (srt zs) := by
  refine ⟨by rw [(srt_perm zs).length_eq]; exact hl, List.all_eq_true.mpr fun x hx => ?_, ascD_of ?_⟩
  · have := hz x ((srt_perm zs).mem_iff.mp hx)
    simp [this.1, this.2]
  · have nd : (srt zs).Nodup := (srt_perm zs).nodup_iff.mpr hn
    exact (List.Pairwise.and (srt_le zs) nd).imp fun ⟨a, b⟩ => by
      rcases Int.lt_or_eq_of_le a with h | h
      · exact h
      · exact absurd h b
/-- zeros and ones -/
def okRow (n : Nat) (r : List Int) : Prop := r.length = n ∧ (r.all fun x => decide (0 ≤ x) && decide (x < 2)) = true
theorem okRow_of {Y : PyData → PyData → Prop} (hY : ∀ x d, Y x d → ∃ j : Int, 0 ≤ j ∧ j < 2 ∧ d = .int j) {items ds : List PyData} (h : All2 Y items ds) : ∃ r, ds = iL r ∧ okRow items.length r := by
  induction h with
  | nil => exact ⟨[], rfl, rfl, rfl⟩
  | cons a _ ih =>
    obtain ⟨r, rfl, h1, h2⟩ := ih
    obtain ⟨j, j0, j1, rfl⟩ := hY _ _ a
    refine ⟨j :: r, rfl, by rw [List.length_cons, List.length_cons, h1], ?_⟩
    rw [List.all_cons, h2]
    simp [j0, j1]
theorem okRow_srt {n : Nat} {r : List Int} (h : okRow n r) : okRow n (srt r) := by
  refine ⟨by rw [(srt_perm r).length_eq]; exact h.1, List.all_eq_true.mpr fun x hx => ?_⟩
  exact List.all_eq_true.mp h.2 x ((srt_perm r).mem_iff.mp hx)
theorem stD_2 {n : Nat} (h : n ≤ 5) : (stD n).length = 2 ^ n := by
  match n, h with
  | 0, _ => decide
  | 1, _ => decide
  | 2, _ => decide
  | 3, _ => decide
  | 4, _ => decide
  | 5, _ => decide
end DD
set_option Elab.async false
set_option linter.all false
set_option maxRecDepth 100000
set_option maxHeartbeats 4000000
/-! P23: _law_e_net. -/
namespace DD
open PySem
variable {Γ : FEnv}
theorem oGt_int (a b : Int) : oGt (.int a) (.int b) = some (.bool (decide (b < a))) := rfl
def okP (m : Nat) (n : List Int × List Int) : Prop := okH m 4 n.1 ∧ okRow (2 ^ n.1.length) n.2
theorem wfN_of {nt : NetT} (h0 : nt ≠ []) (h1 : nt.length ≤ 20) (h : ∀ n ∈ nt, okP nt.length n) : WfN nt := ⟨h0, h1, fun n hn => ⟨(h n hn).1, (h n hn).2.1, (h n hn).2.2⟩⟩
theorem tAnd_of {a b : SemT} {σ : SD} {x y : Bool} (ha : a Γ σ = .ret x) (hb : b Γ σ = .ret y) : tAnd a b Γ σ = .ret (x && y) := by
  unfold tAnd
  rw [ha, bind_ret]
  cases x with
  | true => rw [if_pos rfl, hb]; rfl
  | false => rw [if_neg (by simp)]; rfl
theorem tOr_of {a b : SemT} {σ : SD} {x y : Bool} (ha : a Γ σ = .ret x) (hb : b Γ σ = .ret y) : tOr a b Γ σ = .ret (x || y) := by
  unfold tOr
  rw [ha, bind_ret]
  cases x with
  | true => rw [if_pos rfl]; rfl
  | false => rw [if_neg (by simp), hb]; rfl
theorem ev_eqI {a : SemE} {σ : SD} {T : List Nat} {i : Int} (k : Int) (h : Ev Γ a σ (.int i) T) : tVal (eOp oEq a (eC (.int k))) Γ σ = .ret (decide (i = k)) := ev_tval (ev_op h (ev_c _) (oEq_int _ _))
theorem sp_e_net {iD iM iS iP : Nat} (hd : ∀ xs, Γ iD xs = drawM xs) (hm : ∀ xs : List Int, xs.length < 1000000 → Wp xs.length (Γ iM [.strm, .dat (lI xs)]) fun z => ∃ d f, z = (.dat d, f) ∧ ∃ ys, d = lI ys ∧ ys.Perm xs)
    (hs : ∀ n, n ≤ 4 → ∃ f, Γ iS [.dat (.int (n : Nat))] = .ret (.dat (.list ((stD n).map lI)), f)) (hp : ∀ xs : List PyData, 0 < xs.length → xs.length < 1000000 → Wp 1 (Γ iP [.strm, .dat (.list xs)]) fun z => ∃ d f, z = (.dat d, f) ∧ d ∈ xs)
    {most : Nat} (h0 : 0 < most) (h20 : most ≤ 20) :
    Wp 1000 (callS (S__law_e_net iD iM iS iP) 2 10 Γ [.strm, .dat (.int most)]) fun z => ∃ d f, z = (.dat d, f) ∧ ∃ nt, d = lN nt ∧ WfN nt ∧ nt.length ≤ most := by
  refine Wp.callRT rfl ?_
  have s0 : St (startN 10 [.strm, .dat (.int most)]) [some .strm, some (.dat (.int most)), none, none, none, none, none, none, none, none] [] := st_start rfl
  have m1 : Dr Γ 1 (eAdd (eC (.int 1)) (eCall iD (aCons (eVar 0) (aCons (eVar 1) aNil)))) (startN 10 [.strm, .dat (.int most)]) [] fun d => ∃ many : Nat, 0 < many ∧ many ≤ most ∧ d = .int many :=
    dr_add2 (ev_c (.int 1)) ((dr_draw hd s0.v rfl (s0.v.ev (i := 1) rfl) h0 (by omega)).mono (Nat.le_refl _) fun d hj => by
      obtain ⟨j, hj, rfl⟩ := hj
      exact ⟨_, rfl, j + 1, by omega, by omega, by congr 1; omega⟩)
  refine (q_par2 (c1 := 1) (c2 := 0) (c := 999) (o2 := true) (P2 := fun d => d = .list []) s0 m1.o (dro_rP rfl rfl) rfl fun d1 d2 σ1 hd1 hd2 s1 => ?_)
  obtain ⟨many, n0, n1, rfl⟩ := hd1
  subst hd2
  refine q_set (c1 := 1) (c2 := 998) s1 (dr_draw (m := 5) hd s1.v rfl (ev_c (.int 5)) (by decide) (by decide)) rfl fun d σ2 hw s2 => ?_
  obtain ⟨way, hw5, rfl⟩ := hw
  refine (q_for (c1 := many + 19) (c2 := 0) (I := fun k σ => ∃ nt o5 o6 o7 o8, St σ [some .strm, some (.dat (.int most)), some (.dat (.int many)), some (.dat (lN nt)), some (.dat (.int way)), o5, o6, o7, o8, none] [3] ∧ nt.length = k ∧ ∀ n ∈ nt, okP many n)
    (ei_rg (n := many) (s2.v.ev (i := 2) rfl) (by omega)) (fun ct hct => ⟨[], none, none, none, none, s2.demote hct rfl, rfl, fun _ z => by cases z⟩) (fun k x σ hx hI => ?_) fun σ' hI => ?_).le (by
      have e : (rangeD 0 many).length = many := by simp [rangeD]
      rw [e]
      have hm20 : many ≤ 20 := by omega
      have : (many + 19) * many ≤ 39 * 20 := Nat.mul_le_mul (by omega) hm20
      omega)
  · obtain ⟨nt, o5, o6, o7, o8, st, hlen, hok⟩ := hI
    have hk : k < many := by
      have := lt_of_at hx
      simpa [rangeD] using this
    obtain ⟨σa, g1, ga⟩ := st.slot (i := 5) rfl x
    refine ⟨σa, g1, ?_⟩
    -- the size
    have sz : Dr Γ 1 (eIf (tVal (eOp oGt (eVar 4) (eC (.int 1)))) (eCall iD (aCons (eVar 0) (aCons (eAdd (eMin2 (eVar 2) (eC (.int 4))) (eC (.int 1))) aNil))) (eC (.int 1))) σa [] fun d => ∃ size : Nat, size ≤ 4 ∧ size ≤ many ∧ (¬ (1 : Int) < way → size = 1) ∧ d = .int size := by
      refine dr_if (ev_tval (ev_op (ga.v.ev (i := 4) rfl) (ev_c _) (oGt_int _ _))) (fun hc => ?_) fun hc => ?_
      · have em : Ev Γ (eAdd (eMin2 (eVar 2) (eC (.int 4))) (eC (.int 1))) σa (.int ((min many 4 + 1 : Nat) : Int)) [] := by
          have := ev_add (Γ := Γ) (ev_op (op := i2 fun i j => .int (if j < i then j else i)) (r := .int (if (4 : Int) < many then 4 else many)) (ga.v.ev (i := 2) rfl) (ev_c (.int 4)) rfl) (ev_c (.int 1))
          have e : (if (4 : Int) < many then 4 else (many : Int)) + 1 = ((min many 4 + 1 : Nat) : Int) := by split <;> omega
          rw [e] at this
          exact this
        refine (dr_draw hd ga.v rfl em (by omega) (by omega)).mono (Nat.le_refl _) fun d hj => ?_
        obtain ⟨j, hj, rfl⟩ := hj
        exact ⟨j, by omega, by omega, fun z => absurd (of_decide_eq_true hc) z, rfl⟩
      · exact ((ev_c _).dr ⟨1, by decide, by omega, fun _ => rfl, rfl⟩).mono (Nat.zero_le _) fun _ z => z
    refine (q_set (c1 := 1) (c2 := many + 18) ga sz rfl fun d σb hz sb => ?_).le (by omega)
    obtain ⟨size, z1, z2, z3, rfl⟩ := hz
    -- the heeds
    have hh : Dr Γ many (eSorted2 (eSl (eCall iM (aCons (eVar 0) (aCons (eLRg (eVar 2)) aNil))) oNone (oSome (eVar 6)))) σb [] fun d => ∃ zs, d = lI (srt zs) ∧ okH many 4 (srt zs) ∧ (srt zs).length = size := by
      have cm : Dr Γ many (eCall iM (aCons (eVar 0) (aCons (eLRg (eVar 2)) aNil))) σb [] fun d => ∃ ys, d = lI ys ∧ ys.Perm (rI many) := by
        refine dr_call (eva_strm sb.v rfl (eva_cons (ev_rg (sb.v.ev (i := 2) rfl) (by omega)) eva_nil)) ?_
        have := hm (rI many) (by rw [rI_len]; omega)
        rw [rI_len] at this
        rw [rangeD_rI]
        exact this
      refine dr_sorted ((dr_slHi cm (sb.v.ev (i := 6) rfl)).mono (Nat.le_refl _) fun d hz => ?_)
      obtain ⟨ys, rfl, pm⟩ := hz
      have yl : ys.length = many := by rw [pm.length_eq, rI_len]
      refine ⟨_, rfl, by rw [List.length_take]; omega, okH_srt ((pm.nodup_iff.mpr (rI_nodup _)).sublist (List.take_sublist _ _)) (fun z hz => rI_mem.mp (pm.mem_iff.mp (List.mem_of_mem_take hz))) (by rw [List.length_take]; omega), by rw [(srt_perm _).length_eq, List.length_take]; omega⟩
    refine (q_set (c1 := many) (c2 := 18) sb hh rfl fun d σc hz sc => ?_).le (by omega)
    obtain ⟨zs, rfl, okh, hl⟩ := hz
    -- the row
    obtain ⟨fS, hS⟩ := hs size z1
    have hr : Dr Γ 16 (eLc [9] (iVal (eCall iS (aCons (eVar 6) aNil))) (gSlot 9) tYesD (eCall iD (aCons (eVar 0) (aCons (eC (.int 2)) aNil)))) σc [6] fun d => ∃ r, d = lI r ∧ okRow (2 ^ size) r := by
      refine Dr.mono (c := 1 * ((stD size).map lI).length) (dr_lc1 (Γ := Γ) (T' := []) (Y := fun _ d => ∃ j : Nat, j < 2 ∧ d = .int j) sc.v (ei_val (ev_call (eva_cons (sc.v.ev (i := 6) rfl) eva_nil) hS) (.inl rfl)) (by rw [List.length_map]; exact Nat.le_trans (stD_len (by omega)) (by decide)) fun x _ σ0 h0 => ?_) ?_ fun d hz => ?_
      · obtain ⟨σ1, g1, g2⟩ := h0.slot 9 x
        exact ⟨σ1, g1, dr_draw (m := 2) hd g2 rfl (ev_c (.int 2)) (by decide) (by decide)⟩
      · rw [List.length_map, stD_2 (by omega), Nat.one_mul]
        exact Nat.pow_le_pow_right (n := 2) (i := size) (j := 4) (by decide) z1
      · obtain ⟨ds, rfl, h2⟩ := hz
        obtain ⟨r, rfl, ok⟩ := okRow_of (fun x d ⟨j, hj, e⟩ => ⟨j, by omega, by omega, e⟩) h2
        rw [List.length_map, stD_2 (by omega)] at ok
        exact ⟨r, rfl, ok⟩
    refine (q_set (c1 := 16) (c2 := 2) sc hr rfl fun d σd hz sd => ?_).le (by omega)
    obtain ⟨row, rfl, okr⟩ := hz
    -- the end
    have fin : ∀ (row : List Int) (o5 o6 : Option Vl) (σ : SD), okRow (2 ^ size) row → St σ [some .strm, some (.dat (.int most)), some (.dat (.int many)), some (.dat (lN nt)), some (.dat (.int way)), o5, o6, some (.dat (lI (srt zs))), some (.dat (lI row)), none] [3] →
        Wp 1 (sSeq (sIf (tVal (eOp oEq (eVar 4) (eC (.int 2)))) (sSeq (sSet 8 (eSorted2 (eVar 8))) sNil) sNil) (sSeq (sApp 3 (eTup (aCons (eVar 7) (aCons (eVar 8) aNil)))) sNil) Γ σ) (NX fun σ => ∃ nt o5 o6 o7 o8, St σ [some .strm, some (.dat (.int most)), some (.dat (.int many)), some (.dat (lN nt)), some (.dat (.int way)), o5, o6, o7, o8, none] [3] ∧ nt.length = k + 1 ∧ ∀ n ∈ nt, okP many n) := by
      intro row o5 o6 σ okr st
      have app : ∀ (row : List Int) (σ : SD), okRow (2 ^ size) row → St σ [some .strm, some (.dat (.int most)), some (.dat (.int many)), some (.dat (lN nt)), some (.dat (.int way)), o5, o6, some (.dat (lI (srt zs))), some (.dat (lI row)), none] [3] →
          Wp 0 (sSeq (sApp 3 (eTup (aCons (eVar 7) (aCons (eVar 8) aNil)))) sNil Γ σ) (NX fun σ => ∃ nt o5 o6 o7 o8, St σ [some .strm, some (.dat (.int most)), some (.dat (.int many)), some (.dat (lN nt)), some (.dat (.int way)), o5, o6, o7, o8, none] [3] ∧ nt.length = k + 1 ∧ ∀ n ∈ nt, okP many n) := by
        intro row σ okr st
        refine (q_app (c1 := 0) (c2 := 0) (xs := nt.map lP) (T := [7, 8]) (P := fun d => d = lP (srt zs, row)) st rfl ((ev_tup (ds := [lI (srt zs), lI row]) (eva_cons (st.v.ev (i := 7) rfl) (eva_cons (st.v.ev (i := 8) rfl) eva_nil)) (show 2 ≤ 16777216 by decide)).dr rfl) rfl (by rw [List.length_map]; omega) fun d σ' hd s => ?_).le (Nat.le_refl _)
        subst hd
        refine q_nil ⟨nt ++ [(srt zs, row)], o5, o6, some (.dat (lI (srt zs))), some (.dat (lI row)), ?_, by rw [List.length_append, hlen]; rfl, fun n hn => ?_⟩
        · have e : lN (nt ++ [(srt zs, row)]) = .list (nt.map lP ++ [lP (srt zs, row)]) := by unfold lN; rw [List.map_append]; rfl
          rw [e]
          exact s
        · rcases List.mem_append.mp hn with hn | hn
          · exact hok n hn
          · have : n = (srt zs, row) := by simpa using hn
            subst this
            exact ⟨okh, by show okRow (2 ^ (srt zs).length) row; rw [hl]; exact okr⟩
      cases hc : decide ((way : Int) = 2) with
      | false => exact (q_iff (by rw [ev_eqI 2 (st.v.ev (i := 4) rfl), hc]) (app row σ okr st)).le (by omega)
      | true =>
        refine (q_ift (c1 := 0) (c2 := 0) (Q1 := fun σ => St σ [some .strm, some (.dat (.int most)), some (.dat (.int many)), some (.dat (lN nt)), some (.dat (.int way)), o5, o6, some (.dat (lI (srt zs))), some (.dat (lI (srt row))), none] [3]) (by rw [ev_eqI 2 (st.v.ev (i := 4) rfl), hc]) (q_set0 (i := 8) st (ev_sorted (zs := row) (st.v.ev (i := 8) rfl) (by rw [okr.1]; exact Nat.le_trans (Nat.pow_le_pow_right (n := 2) (i := size) (j := 4) (by decide) z1) (by decide))) rfl fun σ' s => q_nil (Q1 := fun σ => St σ [some .strm, some (.dat (.int most)), some (.dat (.int many)), some (.dat (lN nt)), some (.dat (.int way)), o5, o6, some (.dat (lI (srt zs))), some (.dat (lI (srt row))), none] [3]) s) fun σ' s => app (srt row) σ' (okRow_srt okr) s).le (by omega)
    have tt : tOr (tVal (eOp oEq (eVar 4) (eC (.int 1)))) (tAnd (tVal (eOp oEq (eVar 4) (eC (.int 0)))) (tVal (eOp oEq (eVar 6) (eC (.int 1))))) Γ σd = .ret (decide ((way : Int) = 1) || (decide ((way : Int) = 0) && decide ((size : Int) = 1))) :=
      tOr_of (ev_eqI 1 (sd.v.ev (i := 4) rfl)) (tAnd_of (ev_eqI 0 (sd.v.ev (i := 4) rfl)) (ev_eqI 1 (sd.v.ev (i := 6) rfl)))
    cases hc : (decide ((way : Int) = 1) || (decide ((way : Int) = 0) && decide ((size : Int) = 1))) with
    | false => exact (q_iff (by rw [tt, hc]) (fin row _ _ σd okr sd)).le (by omega)
    | true =>
      have s1 : size = 1 := by
        rw [Bool.or_eq_true, Bool.and_eq_true, decide_eq_true_eq, decide_eq_true_eq, decide_eq_true_eq] at hc
        rcases hc with hc | hc
        · exact z3 (by omega)
        · omega
      have pk : Dr Γ 1 (eCall iP (aCons (eVar 0) (aCons (eLst (aCons (eLst (aCons (eC (.int 0)) (aCons (eC (.int 1)) aNil))) (aCons (eLst (aCons (eC (.int 0)) (aCons (eC (.int 1)) aNil))) (aCons (eLst (aCons (eC (.int 1)) (aCons (eC (.int 0)) aNil))) aNil)))) aNil))) σd [] fun d => ∃ r, d = lI r ∧ okRow (2 ^ size) r := by
        refine dr_call (eva_strm sd.v rfl (eva_cons (ev_rP (d := .list [lI [0, 1], lI [0, 1], lI [1, 0]]) rfl) eva_nil)) ((hp _ (by decide) (by decide)).mono (Nat.le_refl _) fun z hz => ?_)
        obtain ⟨d, f, rfl, hd⟩ := hz
        refine ⟨d, f, rfl, ?_⟩
        rw [s1]
        have : d = lI [0, 1] ∨ d = lI [1, 0] := by
          simp at hd
          exact hd
        rcases this with rfl | rfl
        · exact ⟨_, rfl, by decide, by decide⟩
        · exact ⟨_, rfl, by decide, by decide⟩
      refine (q_ift (c1 := 1) (c2 := 1) (Q1 := fun σ => ∃ r, okRow (2 ^ size) r ∧ St σ [some .strm, some (.dat (.int most)), some (.dat (.int many)), some (.dat (lN nt)), some (.dat (.int way)), some (.dat x), some (.dat (.int size)), some (.dat (lI (srt zs))), some (.dat (lI r)), none] [3]) (by rw [tt, hc]) ((q_set (c1 := 1) (c2 := 0) sd pk rfl fun d σ' hz s => ?_).le (Nat.le_refl _)) fun σ' hz => ?_).le (by omega)
      · obtain ⟨r, rfl, okr⟩ := hz
        exact q_nil ⟨r, okr, s⟩
      · obtain ⟨r, okr, s⟩ := hz
        exact fin r _ _ σ' okr s
  · obtain ⟨nt, o5, o6, o7, o8, st, hlen, hok⟩ := hI
    have hlen : nt.length = many := by rw [hlen]; simp [rangeD]
    refine q_retv st.v (i := 3) rfl ⟨nt, rfl, wfN_of (fun z => by rw [z] at hlen; simp at hlen; omega) (by omega) (by rw [hlen]; exact hok), by omega⟩
end DD
set_option Elab.async false
set_option linter.all false
set_option maxRecDepth 100000
set_option maxHeartbeats 4000000
/-! P24: _law_turning. -/
namespace DD
open PySem
variable {Γ : FEnv} {σ : SD}
theorem ev_addL {a b : SemE} {T T' : List Nat} {xs ys : List PyData} (h : Ev Γ a σ (.list xs) T) (h' : Ev Γ b σ (.list ys) T') (hl : xs.length + ys.length ≤ 16777216) : Ev Γ (eAdd a b) σ (.list (xs ++ ys)) (T ++ T') :=
  ev_bin h h' fun x y hx hy tx ty => ⟨fin (.list (xs ++ ys)) (x.t ++ y.t) (both x y (.list (xs ++ ys))), by unfold addK; rw [hx, hy]; dsimp only; rw [if_pos hl], fin_v _ _ _, fun t ht => by
    rcases List.mem_append.mp (fin_t _ _ _ t ht) with z | z
    · exact List.mem_append_left _ (tx t z)
    · exact List.mem_append_right _ (ty t z)⟩
theorem dr_tup2 {c : Nat} {a b : SemE} {T T' : List Nat} {d : PyData} {P : PyData → Prop} (h : Ev Γ a σ d T) (h' : Dr Γ c b σ T' P) : Dr Γ c (eTup (aCons a (aCons b aNil))) σ (T ++ T') fun e => ∃ y, e = .tuple [d, y] ∧ P y := by
  obtain ⟨x, g1, g2, g3⟩ := h
  unfold Dr eTup aCons
  rw [g1, bind_ret, bind_assoc', bind_assoc']
  refine (Wp.bind (c2 := 0) h' fun y hy => ?_).le (Nat.le_refl _)
  obtain ⟨e, h1, h2, h3⟩ := hy
  unfold aNil
  rw [bind_ret, bind_ret, bind_ret]
  have : datas [x, y] = some [d, e] := datas_of (by rw [List.map_cons, List.map_cons, g2, h1]; rfl)
  rw [this]
  dsimp only
  rw [if_pos (show [d, e].length ≤ 16777216 from (by decide : 2 ≤ 16777216))]
  refine Wp.ret ⟨_, fin_v _ _ _, ⟨e, rfl, h2⟩, fun t ht => ?_⟩
  have := fin_t _ _ _ t ht
  unfold tsOf at this
  rw [List.flatMap_cons, List.flatMap_cons] at this
  rcases List.mem_append.mp this with z | z
  · exact List.mem_append_left _ (g3 t z)
  · rcases List.mem_append.mp z with z | z
    · exact List.mem_append_right _ (h3 t z)
    · cases z
theorem intsD_iL : ∀ ns : List Int, intsD (iL ns) = some ns
  | [] => rfl
  | n :: ns => by
    show (intsD (iL ns)).map (n :: ·) = _
    rw [intsD_iL ns]
    rfl
theorem oSum_lI (ns : List Int) : oSum (lI ns) = some (.int ns.sum) := by
  show (intsD (iL ns)).map (fun bs => PyData.int bs.sum) = _
  rw [intsD_iL]
  rfl
theorem lc_below {other : Int} {zs : List Int} {ds : List PyData} (h : Lc (fun x d => d = x ∧ ∃ i : Int, x = .int i ∧ i < other) (fun _ => True) (iL zs) ds) : ∃ as, ds = iL as ∧ as.Sublist zs ∧ ∀ a ∈ as, a < other := by
  induction zs generalizing ds with
  | nil => cases h; exact ⟨[], rfl, .slnil, fun _ z => by cases z⟩
  | cons z zs ih =>
    cases h with
    | cons hy r =>
      obtain ⟨as, rfl, h1, h2⟩ := ih r
      obtain ⟨rfl, i, hi, hlt⟩ := hy
      injection hi with hi
      subst hi
      exact ⟨z :: as, rfl, h1.cons₂ z, fun a ha => by
        rcases List.mem_cons.mp ha with rfl | ha
        · exact hlt
        · exact h2 a ha⟩
    | skip _ r =>
      obtain ⟨as, rfl, h1, h2⟩ := ih r
      exact ⟨as, rfl, h1.cons z, h2⟩
theorem sp_turning {iD iM iS : Nat} (hd : ∀ xs, Γ iD xs = drawM xs) (hm : ∀ xs : List Int, xs.length < 1000000 → Wp xs.length (Γ iM [.strm, .dat (lI xs)]) fun z => ∃ d f, z = (.dat d, f) ∧ ∃ ys, d = lI ys ∧ ys.Perm xs)
    (hs : ∀ n, n ≤ 4 → ∃ f, Γ iS [.dat (.int (n : Nat))] = .ret (.dat (.list ((stD n).map lI)), f)) :
    Wp 100 (callS (S__law_turning iD iM iS) 1 11 Γ [.strm]) fun z => ∃ d f, z = (.dat d, f) ∧ ∃ nt, d = lN nt ∧ WfN nt ∧ nt.length ≤ 4 := by
  refine Wp.callRT rfl ?_
  have s0 : St (startN 11 [.strm]) [some .strm, none, none, none, none, none, none, none, none, none, none] [] := st_start rfl
  have m1 : Dr Γ 1 (eAdd (eC (.int 1)) (eCall iD (aCons (eVar 0) (aCons (eC (.int 4)) aNil)))) (startN 11 [.strm]) [] fun d => ∃ many : Nat, 0 < many ∧ many ≤ 4 ∧ d = .int many :=
    dr_add2 (ev_c (.int 1)) ((dr_draw (m := 4) hd s0.v rfl (ev_c (.int 4)) (by decide) (by decide)).mono (Nat.le_refl _) fun d hj => by
      obtain ⟨j, hj, rfl⟩ := hj
      exact ⟨_, rfl, j + 1, by omega, by omega, by congr 1; omega⟩)
  refine q_set (c1 := 1) (c2 := 99) s0 m1 rfl fun d σ1 hz s1 => ?_
  obtain ⟨many, n0, n1, rfl⟩ := hz
  have cm : Dr Γ many (eCall iM (aCons (eVar 0) (aCons (eLRg (eVar 1)) aNil))) σ1 [] fun d => ∃ ys, d = lI ys ∧ ys.Perm (rI many) := by
    refine dr_call (eva_strm s1.v rfl (eva_cons (ev_rg (s1.v.ev (i := 1) rfl) (by omega)) eva_nil)) ?_
    have := hm (rI many) (by rw [rI_len]; omega)
    rw [rI_len] at this
    rw [rangeD_rI]
    exact this
  refine (q_par2 (c1 := many) (c2 := 0) (c := 80) (o2 := true) (P2 := fun d => d = .list []) s1 cm.o (dro_rP rfl rfl) rfl fun d1 d2 σ2 hd1 hd2 s2 => ?_).le (by omega)
  obtain ⟨os, rfl, pm⟩ := hd1
  subst hd2
  refine (q_for (c1 := many + 10) (c2 := 0) (I := fun k σ => ∃ nt o4 o5 o6 o7 o8, St σ [some .strm, some (.dat (.int many)), some (.dat (lI os)), some (.dat (lN nt)), o4, o5, o6, o7, o8, none, none] [3] ∧ nt.length = k ∧ ∀ n ∈ nt, okP many n)
    (ei_rg (n := many) (s2.v.ev (i := 1) rfl) (by omega)) (fun ct hct => ⟨[], none, none, none, none, none, s2.demote hct rfl, rfl, fun _ z => by cases z⟩) (fun k x σ hx hI => ?_) fun σ' hI => ?_).le (by
      have e : (rangeD 0 many).length = many := by simp [rangeD]
      rw [e]
      have : (many + 10) * many ≤ 14 * 4 := Nat.mul_le_mul (by omega) n1
      omega)
  · obtain ⟨nt, o4, o5, o6, o7, o8, st, hlen, hok⟩ := hI
    have hk : k < many := by
      have := lt_of_at hx
      simpa [rangeD] using this
    rw [rangeD_rI] at hx
    obtain ⟨kk, hkk, rfl⟩ := iL_at hx
    have hkr := rI_mem.mp (List.mem_of_getElem? hkk)
    have ol : os.length = many := by rw [pm.length_eq, rI_len]
    obtain ⟨σa, g1, ga⟩ := st.slot (i := 4) rfl (.int kk)
    refine ⟨σa, g1, ?_⟩
    refine q_set0 ga (ev_ix (ga.v.ev (i := 2) rfl) (.inl rfl) (ga.v.ev (i := 4) rfl) hkr.1 (iL_get hkr.1 (by omega))) rfl fun σb sb => ?_
    generalize hoth : os.getD kk.toNat 0 = other at sb
    have hom : other ∈ rI many := by
      have hi : kk.toNat < os.length := by omega
      rw [List.getD_eq_getElem?_getD, List.getElem?_eq_getElem hi] at hoth
      exact pm.mem_iff.mp (hoth ▸ List.getElem_mem hi)
    have hor := rI_mem.mp hom
    -- what is ahead
    have ah : Dr Γ many (eSl (eLc [9] (iRange1 (eVar 1)) (gSlot 9) (tAnd (tVal (eOp oLt (eVar 9) (eVar 5))) (tVal (eOp oEq (eCall iD (aCons (eVar 0) (aCons (eC (.int 2)) aNil))) (eC (.int 0))))) (eVar 9)) oNone (oSome (eC (.int 2)))) σb [9] fun d => ∃ as : List Int, d = lI (as.take 2) ∧ as.Sublist (rI many) ∧ ∀ a ∈ as, a < other := by
      refine dr_slHi (k := 2) (P := fun as => as.Sublist (rI many) ∧ ∀ a ∈ as, a < other) ?_ (ev_c (.int 2))
      refine Dr.mono (dr_lc (Γ := Γ) (c1 := 1) (c2 := 0) (T' := [9]) (items := iL (rI many)) (own := [9]) (g := gSlot 9) (e := eVar 9) (Y := fun x d => d = x ∧ ∃ i : Int, x = .int i ∧ i < other) (N := fun _ => True) sb.v (by rw [← rangeD_rI]; exact ei_rg (sb.v.ev (i := 1) rfl) (by omega)) (by rw [List.length_map, rI_len]; omega) fun x hx σ0 h0 => ?_) (by rw [List.length_map, rI_len]; omega) fun d hz => ?_
      · obtain ⟨i, hi, rfl⟩ := List.mem_map.mp hx
        obtain ⟨σ1, g1, g2⟩ := h0.slot 9 (.int i)
        refine ⟨σ1, g1, ?_⟩
        have t1 : tVal (eOp oLt (eVar 9) (eVar 5)) Γ σ1 = .ret (decide (i < other)) := ev_tval (ev_op (g2.ev (i := 9) (d := .int i) rfl) (g2.ev (i := 5) (d := .int other) rfl) rfl)
        unfold tAnd
        rw [t1, bind_ret]
        cases hc : decide (i < other) with
        | false => rw [if_neg (by simp)]; exact Wp.retc trivial
        | true =>
          rw [if_pos rfl]
          refine (dr_drawEq (m := 2) 0 hd g2 rfl (ev_c (.int 2)) (by decide) (by decide)).mono (Nat.le_refl _) fun q _ => ?_
          cases q with
          | false => trivial
          | true => rw [if_pos rfl]; exact (g2.ev rfl).dr ⟨rfl, i, rfl, of_decide_eq_true hc⟩
      · obtain ⟨ds, rfl, h2⟩ := hz
        obtain ⟨as, rfl, h3, h4⟩ := lc_below h2
        exact ⟨as, rfl, h3, h4⟩
    refine (q_set (c1 := many) (c2 := 10) sb ah rfl fun d σc hz sc => ?_).le (by omega)
    obtain ⟨as, rfl, hsub, hlt⟩ := hz
    have al : (as.take 2).length ≤ 2 := by rw [List.length_take]; omega
    have ex : Ev Γ (eSorted2 (eAdd (eLst (aCons (eVar 5) aNil)) (eVar 6))) σc (lI (srt (other :: as.take 2))) [] := by
      refine ev_sorted (zs := other :: as.take 2) (T := [5] ++ [] ++ [6]) ?_ (by rw [List.length_cons]; omega)
      exact ev_addL (xs := [.int other]) (ys := iL (as.take 2)) (ev_lst (ds := [.int other]) (eva_cons (sc.v.ev (i := 5) rfl) eva_nil) (show 1 ≤ 16777216 by decide)) (sc.v.ev (i := 6) rfl) (by rw [List.length_map]; simp; omega)
    refine (q_unp (c1 := 1) (c2 := 0) (P' := fun x y => x = lI (srt (other :: as.take 2)) ∧ ∃ j : Nat, j < 2 ∧ y = .int j) sc (dr_tup2 ex (dr_draw (m := 2) hd sc.v rfl (ev_c (.int 2)) (by decide) (by decide))) rfl (fun d ⟨y, e, p⟩ => ⟨_, y, e, rfl, p⟩) fun x y σd hp sd => ?_).le (by omega)
    obtain ⟨rfl, tu, htu, rfl⟩ := hp
    have hl : (srt (other :: as.take 2)).length ≤ 3 := by rw [(srt_perm _).length_eq, List.length_cons]; omega
    have okh : okH many 4 (srt (other :: as.take 2)) := by
      have sub2 : (as.take 2).Sublist (rI many) := (List.take_sublist _ _).trans hsub
      refine okH_srt (List.nodup_cons.mpr ⟨fun z => ?_, (rI_nodup many).sublist sub2⟩) (fun z hz => ?_) (by rw [List.length_cons]; omega)
      · have := hlt other (List.mem_of_mem_take z)
        omega
      · rcases List.mem_cons.mp hz with rfl | hz
        · exact hor
        · exact rI_mem.mp (sub2.subset hz)
    generalize srt (other :: as.take 2) = hh at sd hl okh
    obtain ⟨fS, hS⟩ := hs hh.length (by omega)
    have er : Dr Γ 0 (eLc [10] (iVal (eCall iS (aCons (eLen (eVar 7)) aNil))) (gSlot 10) tYesD (eOp oMod (eInt (eAdd (eSum (eVar 10)) (eVar 8))) (eC (.int 2)))) σd [] fun d => ∃ r, d = lI r ∧ okRow (2 ^ hh.length) r := by
      have eS : Ev Γ (eCall iS (aCons (eLen (eVar 7)) aNil)) σd (.list ((stD hh.length).map lI)) [] := by
        refine ev_call (f := fS) (eva_cons (ev_len (sd.v.ev (i := 7) rfl) (.inl rfl)) eva_nil) ?_
        rw [List.length_map]
        exact hS
      refine Dr.mono (c := 0 * ((stD hh.length).map lI).length) (dr_lc1 (Γ := Γ) (T' := []) (Y := fun _ d => ∃ j : Int, 0 ≤ j ∧ j < 2 ∧ d = .int j) sd.v (ei_val eS (.inl rfl)) (by rw [List.length_map]; exact Nat.le_trans (stD_len (by omega)) (by decide)) fun x hx σ0 h0 => ?_) (by omega) fun d hz => ?_
      · obtain ⟨s, _, rfl⟩ := List.mem_map.mp hx
        obtain ⟨σ1, g1, g2⟩ := h0.slot 10 (lI s)
        refine ⟨σ1, g1, ?_⟩
        have e1 := ev_un (Γ := Γ) (g2.ev (i := 10) (d := lI s) rfl) (oSum_lI s)
        have e2 := ev_add e1 (g2.ev (i := 8) (d := .int tu) rfl)
        have e3 := ev_un (op := oInt) (r := .int (s.sum + tu)) e2 rfl
        have e4 := ev_op (op := oMod) (r := .int ((s.sum + tu) % 2)) e3 (ev_c (.int 2)) rfl
        exact e4.dr ⟨_, Int.emod_nonneg _ (by decide), Int.emod_lt_of_pos _ (by decide), rfl⟩
      · obtain ⟨ds, rfl, h2⟩ := hz
        obtain ⟨r, rfl, ok⟩ := okRow_of (fun x d h => h) h2
        rw [List.length_map, stD_2 (by omega)] at ok
        exact ⟨r, rfl, ok⟩
    refine (q_app (c1 := 0) (c2 := 0) (xs := nt.map lP) sd rfl (dr_tup2 (sd.v.ev (i := 7) rfl) er) rfl (by rw [List.length_map]; omega) fun d σ' hz s => ?_).le (Nat.le_refl _)
    obtain ⟨_, rfl, r, rfl, okr⟩ := hz
    refine q_nil ⟨nt ++ [(hh, r)], some (.dat (.int kk)), some (.dat (.int other)), some (.dat (lI (as.take 2))), some (.dat (lI hh)), some (.dat (.int tu)), ?_, by rw [List.length_append, hlen]; rfl, fun n hn => ?_⟩
    · have e : lN (nt ++ [(hh, r)]) = .list (nt.map lP ++ [lP (hh, r)]) := by unfold lN; rw [List.map_append]; rfl
      rw [e]
      exact s
    · rcases List.mem_append.mp hn with hn | hn
      · exact hok n hn
      · have : n = (hh, r) := by simpa using hn
        subst this
        exact ⟨okh, okr⟩
  · obtain ⟨nt, o4, o5, o6, o7, o8, st, hlen, hok⟩ := hI
    have hlen : nt.length = many := by rw [hlen]; simp [rangeD]
    refine q_retv st.v (i := 3) rfl ⟨nt, rfl, wfN_of (fun z => by rw [z] at hlen; simp at hlen; omega) (by omega) (by rw [hlen]; exact hok), by omega⟩
end DD
set_option Elab.async false
set_option linter.all false
set_option maxRecDepth 100000
set_option maxHeartbeats 4000000
/-! P25: plain facts for the law of undone_or_two. -/
namespace DD
open PySem
variable {Γ : FEnv} {σ : SD} {vs : List (Option Vl)}
theorem ei_enum {a : SemE} {T : List Nat} {xs : List PyData} (h : Ev Γ a σ (.list xs) T) : EvI Γ (iEnum a) σ (enumD 0 xs) T := by
  obtain ⟨r, h1, h2, h3⟩ := h
  refine ⟨r.t, ?_, h3⟩
  unfold iEnum
  rw [h1, bind_ret, h2]
theorem ev_lcA {α : Type} {own : List Nat} {it : SemI} {g : SemG} {t : SemT} {e : SemE} {T T' : List Nat} {items : List α} {p V : α → PyData} {q : α → Bool} (hv : Vw σ vs) (hi : EvI Γ it σ (items.map p) T) (hl : items.length ≤ 16777216)
    (h : ∀ x ∈ items, ∀ σ0, Vw σ0 (own.foldr (fun v vs => vs.set v none) vs) → ∃ σ1, g (p x) σ0 = .ret σ1 ∧ t Γ σ1 = .ret (q x) ∧ (q x = true → Ev Γ e σ1 (V x) T')) :
    Ev Γ (eLc own it g t e) σ (.list ((items.filter q).map V)) (T' ++ T) := by
  obtain ⟨ct, hc, hct⟩ := hi
  have go : ∀ {items : List α}, (∀ x ∈ items, ∃ σ1, g (p x) (wipeD (demote ct σ) own) = .ret σ1 ∧ t Γ σ1 = .ret (q x) ∧ (q x = true → Ev Γ e σ1 (V x) T')) → ∃ rs, lcGo g t e Γ (wipeD (demote ct σ) own) (items.map p) = .ret rs ∧ datas rs = some ((items.filter q).map V) ∧ ∀ x ∈ tsOf rs, x ∈ T' := by
    intro items
    induction items with
    | nil => exact fun _ => ⟨[], rfl, rfl, fun _ z => by cases z⟩
    | cons x xs ih =>
      intro h
      obtain ⟨σ1, h1, h2, h3⟩ := h x List.mem_cons_self
      obtain ⟨rs, i1, i2, i3⟩ := ih fun y hy => h y (List.mem_cons_of_mem _ hy)
      rw [List.map_cons]
      unfold lcGo
      rw [h1, bind_ret, h2, bind_ret]
      cases hp : q x with
      | true =>
        obtain ⟨r, r1, r2, r3⟩ := h3 hp
        refine ⟨r :: rs, by rw [if_pos rfl, r1, bind_ret, i1, bind_ret], ?_, fun y hy => ?_⟩
        · rw [List.filter_cons_of_pos hp, List.map_cons]
          unfold datas
          rw [r2]
          dsimp only
          rw [i2]
          rfl
        · unfold tsOf at hy
          rw [List.flatMap_cons] at hy
          rcases List.mem_append.mp hy with z | z
          · exact r3 y z
          · exact i3 y z
      | false => exact ⟨rs, by rw [if_neg (by simp), i1], by rw [List.filter_cons_of_neg (by simp [hp])]; exact i2, i3⟩
  obtain ⟨rs, i1, i2, i3⟩ := go fun x hx => h x hx _ ((hv.demote ct).wipe own)
  refine ⟨fin (.list ((items.filter q).map V)) (tsOf rs ++ ct) (dispF rs), ?_, fin_v _ _ _, fun x hx => ?_⟩
  · unfold eLc
    rw [hc, bind_ret]
    dsimp only
    rw [i1]
    show lcEnd ct rs = _
    unfold lcEnd
    rw [i2]
    dsimp only
    rw [if_pos (by rw [List.length_map]; exact Nat.le_trans (List.length_filter_le _ _) hl)]
  · rcases List.mem_append.mp (fin_t _ _ _ x hx) with z | z
    · exact List.mem_append_left _ (i3 x z)
    · exact List.mem_append_right _ (hct x z)
theorem ev_lcM {α : Type} {own : List Nat} {it : SemI} {g : SemG} {e : SemE} {T T' : List Nat} {items : List α} {p V : α → PyData} (hv : Vw σ vs) (hi : EvI Γ it σ (items.map p) T) (hl : items.length ≤ 16777216)
    (h : ∀ x ∈ items, ∀ σ0, Vw σ0 (own.foldr (fun v vs => vs.set v none) vs) → ∃ σ1, g (p x) σ0 = .ret σ1 ∧ Ev Γ e σ1 (V x) T') :
    Ev Γ (eLc own it g tYesD e) σ (.list (items.map V)) (T' ++ T) := by
  have := ev_lcA (t := tYesD) (q := fun _ => true) hv hi hl fun x hx σ0 h0 => by
    obtain ⟨σ1, h1, h2⟩ := h x hx σ0 h0
    exact ⟨σ1, h1, rfl, fun _ => h2⟩
  rwa [filter_true] at this
theorem depth_lI (a : List Int) : PyData.depth (lI a) ≤ 1 := by
  show PyData.depth (.list (iL a)) ≤ 1
  rw [PyData.depth, depthAll_iL]
  decide
theorem oEq_lI (a b : List Int) : oEq (lI a) (lI b) = some (.bool (decide (a = b))) := by
  unfold oEq eqOk
  have h1 : min (lI a).depth (lI b).depth ≤ 150 := Nat.le_trans (Nat.min_le_left _ _) (Nat.le_trans (depth_lI a) (by decide))
  rw [plain_lI, plain_lI, eqv_lI]
  simp [h1]
theorem oNe_nil {ps : List PyData} (h : PyData.plainAll ps = true) : oNe (.list ps) (.list []) = some (.bool (!ps.isEmpty)) := by
  unfold oNe eqOk
  have h0 : PyData.plain (.list ps) = true := h
  have h1 : min (PyData.list ps).depth (PyData.list []).depth ≤ 150 := Nat.le_trans (Nat.min_le_right _ _) (by decide)
  have h2 : PyData.eqv (.list ps) (.list []) = ps.isEmpty := by cases ps <;> rfl
  have h3 : PyData.plain (.list []) = true := rfl
  rw [h0, h3, h2]
  simp [h1]
theorem plainAll_map {α : Type} {f : α → PyData} (h : ∀ x, PyData.plain (f x) = true) : ∀ xs : List α, PyData.plainAll (xs.map f) = true
  | [] => rfl
  | x :: xs => by
    show (PyData.plain (f x) && PyData.plainAll (xs.map f)) = true
    rw [h x, plainAll_map h xs]
    rfl
theorem shaped_lI (a : List Int) : SeqAt.shaped (lI a) = true := by
  unfold SeqAt.shaped
  have h1 : PyData.canLay0 (lI a) = true := by
    show PyData.canLayAll0 (iL a) = true
    induction a with
    | nil => rfl
    | cons x xs ih =>
      show (PyData.canLay0 (.int x) && PyData.canLayAll0 (iL xs)) = true
      rw [ih]
      rfl
  rw [h1, decide_eq_true (Nat.le_trans (depth_lI a) (by decide))]
  rfl
theorem shaped_lL (zs : List (List Int)) : SeqAt.shaped (.list (zs.map lI)) = true := by
  have h : PyData.canLayAll0 (zs.map lI) = true ∧ PyData.depthAll (zs.map lI) ≤ 1 := by
    induction zs with
    | nil => exact ⟨rfl, Nat.zero_le _⟩
    | cons x xs ih =>
      have hx := shaped_lI x
      unfold SeqAt.shaped at hx
      rw [Bool.and_eq_true] at hx
      refine ⟨?_, ?_⟩
      · show (PyData.canLay0 (lI x) && PyData.canLayAll0 (xs.map lI)) = true
        rw [hx.1, ih.1]
        rfl
      · show PyData.depthAll (lI x :: xs.map lI) ≤ 1
        rw [PyData.depthAll]
        exact Nat.max_le.mpr ⟨depth_lI x, ih.2⟩
  unfold SeqAt.shaped
  have h1 : PyData.canLay0 (.list (zs.map lI)) = true := h.1
  have h2 : PyData.depth (.list (zs.map lI)) ≤ 64 := by
    rw [PyData.depth]
    omega
  rw [h1, decide_eq_true h2]
  rfl
theorem findE_map {T : List Int → List Int} {s x : List Int} : ∀ {zs : List (List Int)} {k : Nat}, x ∈ zs → (∀ z ∈ zs, T z = s ↔ z = x) → ∃ j, findE (lI s) (zs.map fun z => lI (T z)) k = some (k + j) ∧ zs[j]? = some x
  | [], _, h, _ => by cases h
  | z :: zs, k, h, hi => by
    show ∃ j, findE (lI s) (lI (T z) :: zs.map fun z => lI (T z)) k = some (k + j) ∧ _
    unfold findE
    rw [eqv_lI]
    by_cases e : T z = s
    · rw [decide_eq_true e, if_pos rfl]
      have := (hi z List.mem_cons_self).mp e
      subst this
      exact ⟨0, rfl, rfl⟩
    · rw [decide_eq_false e, if_neg (by simp)]
      have hx : x ∈ zs := by
        rcases List.mem_cons.mp h with rfl | h
        · exact absurd ((hi x List.mem_cons_self).mpr rfl) e
        · exact h
      obtain ⟨j, j1, j2⟩ := findE_map (k := k + 1) hx fun z hz => hi z (List.mem_cons_of_mem _ hz)
      exact ⟨j + 1, by rw [j1]; congr 1; omega, by simpa using j2⟩
theorem ev_index {a b : SemE} {T1 T2 : List Nat} {T : List Int → List Int} {zs : List (List Int)} {s x : List Int} (ha : Ev Γ a σ (.list (zs.map fun z => lI (T z))) T1) (hb : Ev Γ b σ (lI s) T2) (hx : x ∈ zs) (hi : ∀ z ∈ zs, T z = s ↔ z = x) : ∃ j : Nat, Ev Γ (eIndex a b) σ (.int j) [] ∧ zs[j]? = some x := by
  obtain ⟨j, j1, j2⟩ := findE_map (k := 0) hx hi
  rw [Nat.zero_add] at j1
  refine ⟨j, ?_, j2⟩
  obtain ⟨r, g1, g2, _⟩ := ha
  obtain ⟨y, h1, h2, _⟩ := hb
  refine ev_rP ?_
  unfold eIndex
  rw [g1, bind_ret, g2]
  dsimp only
  rw [h1, bind_ret]
  unfold indexK
  rw [h2]
  dsimp only
  have s1 : SeqAt.shaped (.list (zs.map fun z => lI (T z))) = true := by
    have := shaped_lL (zs.map T)
    rwa [List.map_map] at this
  have p1 : PyData.plainAll (zs.map fun z => lI (T z)) = true := plainAll_map (fun z => plain_lI _) zs
  rw [s1, shaped_lI, p1, plain_lI, if_pos (by rfl), j1]
theorem enumD_lI (ss : List (List Int)) : ∀ k : Nat, enumD k (ss.map lI) = (ss.zipIdx k).map fun z => .tuple [.int (z.2 : Nat), lI z.1] := by
  induction ss with
  | nil => intro k; rfl
  | cons s ss ih =>
    intro k
    show _ :: enumD (k + 1) (ss.map lI) = _
    rw [ih (k + 1)]
    rfl
/-! the law's pairs -/
def prs1 (T : List Int → List Int) (ss : List (List Int)) (z : List Int × Nat) : List (List Int × List Int) := ((ss.zipIdx 0).filter fun w => decide (z.2 < w.2) && decide (T w.1 = T z.1)).map fun w => (z.1, w.1)
def prs (T : List Int → List Int) (ss : List (List Int)) : List (List Int × List Int) := (ss.zipIdx 0).flatMap (prs1 T ss)
theorem zipIdx_filter_lt (c : List Int → Bool) : ∀ (ss : List (List Int)) (n k : Nat), n ≤ k + 1 → ((ss.zipIdx n).filter fun w => decide (k < w.2) && c w.1).map (·.1) = (ss.drop (k + 1 - n)).filter c
  | [], n, k, _ => by simp
  | s :: ss, n, k, h => by
    rw [List.zipIdx_cons]
    by_cases e : n = k + 1
    · subst e
      have ih := zipIdx_filter_lt c ss
      rw [Nat.sub_self, List.drop_zero]
      have all : ∀ (m : Nat) (ss : List (List Int)), k < m → ((ss.zipIdx m).filter fun w => decide (k < w.2) && c w.1).map (·.1) = ss.filter c := by
        intro m ss
        induction ss generalizing m with
        | nil => intro _; rfl
        | cons a as ih =>
          intro hm
          rw [List.zipIdx_cons, List.filter_cons, List.filter_cons]
          rw [decide_eq_true hm, Bool.true_and]
          cases c a with
          | true => rw [if_pos rfl, if_pos rfl, List.map_cons, ih (m + 1) (by omega)]
          | false => rw [if_neg (by simp), if_neg (by simp), ih (m + 1) (by omega)]
      have := all (k + 1) (s :: ss) (by omega)
      rw [List.zipIdx_cons] at this
      exact this
    · rw [List.filter_cons, if_neg (by simp; omega), zipIdx_filter_lt c ss (n + 1) k (by omega)]
      rw [show k + 1 - n = (k + 1 - (n + 1)) + 1 by omega, List.drop_succ_cons]
theorem prs1_head (T : List Int → List Int) (ss : List (List Int)) (z : List Int × Nat) : (prs1 T ss z).head? = two1 T z.1 (ss.drop (z.2 + 1)) := by
  unfold prs1 two1
  have e := zipIdx_filter_lt (fun b => decide (T b = T z.1)) ss 0 z.2 (by omega)
  rw [Nat.sub_zero] at e
  have : (List.map (fun w : List Int × Nat => (z.1, w.1)) (List.filter (fun w => decide (z.2 < w.2) && decide (T w.1 = T z.1)) (ss.zipIdx 0))) = (List.map (·.1) (List.filter (fun w => decide (z.2 < w.2) && decide (T w.1 = T z.1)) (ss.zipIdx 0))).map fun b => (z.1, b) := by
    rw [List.map_map]
    rfl
  rw [this, e, List.head?_map, List.head?_filter]
  congr 2
  funext b
  exact decide_eq_decide.mpr eq_comm
theorem two_zip2 {T : List Int → List Int} : ∀ (post pre : List (List Int)), (post.zipIdx pre.length).findSome? (fun z => two1 T z.1 ((pre ++ post).drop (z.2 + 1))) = two T post
  | [], _ => rfl
  | a :: r, pre => by
    rw [List.zipIdx_cons, List.findSome?_cons]
    dsimp only
    have h1 : (pre ++ a :: r).drop (pre.length + 1) = r := by
      rw [List.drop_append]
      simp
    have ih := two_zip2 (T := T) r (pre ++ [a])
    rw [List.length_append, List.append_assoc] at ih
    rw [h1]
    unfold two
    cases h : two1 T a r with
    | some z => rfl
    | none => exact ih
theorem prs_head (T : List Int → List Int) (ss : List (List Int)) : (prs T ss).head? = two T ss := by
  unfold prs
  rw [List.head?_flatMap]
  have := two_zip2 (T := T) ss []
  rw [List.nil_append, List.length_nil] at this
  rw [← this]
  congr 1
  funext z
  exact prs1_head T ss z
def prD (z : List Int × List Int) : PyData := .tuple [lI z.1, lI z.2]
theorem plain_prD (z : List Int × List Int) : PyData.plain (prD z) = true := by
  show (PyData.plain (lI z.1) && (PyData.plain (lI z.2) && true)) = true
  rw [plain_lI, plain_lI]
  rfl
/-! depth -/
theorem noDic_lI {a : List Int} (h : a.length ≤ 16777216) : NoDic 1 (lI a) := .list (fun x hx => by
  obtain ⟨i, _, rfl⟩ := List.mem_map.mp hx
  exact .int i) (by rw [List.length_map]; exact h)
theorem noDic_sq {n : Nat} {d : PyData} {xs : List PyData} (hs : Sq d xs) (h : ∀ x ∈ xs, NoDic n x) (hl : xs.length ≤ 16777216) : NoDic (n + 1) d := by
  rcases hs with rfl | rfl
  · exact .list h hl
  · exact .tuple h hl
theorem netD_noDic {d : PyData} {nt : NetT} (hd : NetD d nt) (wf : WfN nt) : NoDic 3 d := by
  obtain ⟨ps, hs, h2⟩ := hd
  refine noDic_sq hs (fun p hp => ?_) (by rw [h2.len]; exact Nat.le_trans wf.2.1 (by decide))
  obtain ⟨n, hn, a, b, hq, ha, hb⟩ := h2.mem hp
  obtain ⟨k1, k2, k3⟩ := wf.2.2 n hn
  have il : ∀ {d : PyData} {ns : List Int}, Sq d (iL ns) → ns.length ≤ 16777216 → NoDic 1 d := fun h hl => noDic_sq h (fun x hx => by
    obtain ⟨i, _, rfl⟩ := List.mem_map.mp hx
    exact .int i) (by rw [List.length_map]; exact hl)
  have l1 : n.1.length ≤ 4 := k1.1
  refine noDic_sq hq (fun x hx => ?_) (show 2 ≤ 16777216 by decide)
  rcases List.mem_cons.mp hx with rfl | hx
  · exact il ha (by omega)
  · rcases List.mem_cons.mp hx with rfl | hx
    · exact il hb (by rw [k2]; exact Nat.le_trans (Nat.pow_le_pow_right (n := 2) (i := n.1.length) (j := 4) (by decide) l1) (by decide))
    · cases hx
theorem okD_lI {n : Nat} {a : List Int} (h : a.length < 16777216) : okD (n + 1) (lI a) = true := by
  show (decide ((iL a).length < 16777216) && (iL a).all (okD n)) = true
  rw [List.length_map, decide_eq_true h, List.all_eq_true.mpr fun x hx => ?_]
  · rfl
  · obtain ⟨i, _, rfl⟩ := List.mem_map.mp hx
    cases n <;> rfl
theorem okD_list {n : Nat} {xs : List PyData} (h : xs.length < 16777216) (hx : ∀ x ∈ xs, okD n x = true) : okD (n + 1) (.list xs) = true := by
  show (decide (xs.length < 16777216) && xs.all (okD n)) = true
  rw [decide_eq_true h, List.all_eq_true.mpr hx]
  rfl
end DD
set_option Elab.async false
set_option linter.all false
set_option maxRecDepth 100000
set_option maxHeartbeats 4000000
/-! P26: restless switches, flipped states, of the program and of a law. -/
namespace DD
open PySem
variable {Γ : FEnv}
theorem oNe_int (a b : Int) : oNe (.int a) (.int b) = some (.bool (decide (a ≠ b))) := by
  unfold oNe eqOk
  have h1 : min (PyData.int a).depth (PyData.int b).depth ≤ 150 := Nat.le_trans (Nat.min_le_left _ _) (show (PyData.int a).depth ≤ 150 from Nat.zero_le _)
  simp only [PyData.plain, Bool.and_self, Bool.true_and, decide_eq_true_eq]
  rw [if_pos h1]
  show some (PyData.bool (!(a == b))) = _
  by_cases h : a = b
  · subst h; simp
  · rw [beq_eq_false_iff_ne.mpr h, decide_eq_true h]
    rfl
theorem enumD_iL (ns : List Int) : ∀ k : Nat, enumD k (iL ns) = (ns.zipIdx k).map fun z => .tuple [.int (z.2 : Nat), .int z.1] := by
  induction ns with
  | nil => intro k; rfl
  | cons s ss ih =>
    intro k
    show _ :: enumD (k + 1) (iL ss) = _
    rw [ih (k + 1)]
    rfl
theorem zipIdx_at {α : Type} {xs : List α} {z : α × Nat} (h : z ∈ xs.zipIdx 0) : xs[z.2]? = some z.1 := by
  have := List.mem_zipIdx_iff_getElem?.mp h
  simpa using this
/-- the switches whose next value is not their own -/
def restN (nt : NetT) (s : List Int) : List Int := (((stepN nt s).zipIdx 0).filter fun z => decide (z.1 ≠ s.getD z.2 0)).map fun z => (z.2 : Int)
theorem restN_mem {nt : NetT} {s : List Int} {k : Int} (h : k ∈ restN nt s) : 0 ≤ k ∧ k < nt.length := by
  unfold restN at h
  obtain ⟨z, hz, rfl⟩ := List.mem_map.mp h
  have h1 := zipIdx_at (List.mem_filter.mp hz).1
  have h2 := (List.getElem?_eq_some_iff.mp h1).1
  have h3 : (stepN nt s).length = nt.length := List.length_map ..
  omega
theorem ei_enumA {a : SemE} {σ : SD} {d : PyData} {T : List Nat} {xs : List PyData} (h : Ev Γ a σ d T) (hs : Sq d xs) : EvI Γ (iEnum a) σ (enumD 0 xs) T := by
  obtain ⟨r, h1, h2, h3⟩ := h
  refine ⟨r.t, ?_, h3⟩
  unfold iEnum
  rw [h1, bind_ret, h2]
  rcases hs with rfl | rfl <;> rfl
/-- both texts of it -/
theorem sp_restless {iN : Nat} {d sd st : PyData} {f0 : Fr} {nt : NetT} {s : List Int} (hsd : Sq sd (iL s)) (hst : Sq st (iL (stepN nt s))) (hlen : nt.length = s.length) (hl : nt.length ≤ 1000) (hN : Γ iN [.dat d, .dat sd] = .ret (.dat st, f0)) :
    ∃ f, callS (S_restless_by iN) 2 4 Γ [.dat d, .dat sd] = .ret (.dat (lI (restN nt s)), f) := by
  have w : Wp 0 (callS (S_restless_by iN) 2 4 Γ [.dat d, .dat sd]) fun z => ∃ e f, z = (.dat e, f) ∧ e = lI (restN nt s) := by
    refine Wp.callRT rfl ?_
    have s0 : St (startN 4 [.dat d, .dat sd]) [some (.dat d), some (.dat sd), none, none] [] := st_start rfl
    have en := ei_enumA (Γ := Γ) (ev_call (eva_cons (s0.v.ev (i := 0) rfl) (eva_cons (s0.v.ev (i := 1) rfl) eva_nil)) hN) hst
    rw [enumD_iL] at en
    have sl : (stepN nt s).length = nt.length := List.length_map ..
    have lc := ev_lcA (Γ := Γ) (own := [2, 3]) (g := gTup [gSlot 2, gSlot 3]) (t := tVal (eOp oNe (eVar 3) (eIx (eVar 1) (eVar 2)))) (e := eVar 2) (items := (stepN nt s).zipIdx 0) (p := fun z => .tuple [.int (z.2 : Nat), .int z.1]) (V := fun z => .int (z.2 : Nat)) (q := fun z => decide (z.1 ≠ s.getD z.2 0)) (T' := [2]) s0.v en (by rw [List.length_zipIdx]; omega) fun z hz σ0 h0 => by
      obtain ⟨σ1, g1, g2⟩ := h0.slot2 2 3 (.int (z.2 : Nat)) (.int z.1)
      have zl := (List.getElem?_eq_some_iff.mp (zipIdx_at hz)).1
      refine ⟨σ1, g1, ?_, fun _ => g2.ev rfl⟩
      have ix := ev_ix (Γ := Γ) (g2.ev (i := 1) (d := sd) rfl) hsd (g2.ev (i := 2) (d := .int (z.2 : Nat)) rfl) (by omega) (iL_get (by omega) (by omega))
      have := ev_tval (ev_op (g2.ev (i := 3) (d := .int z.1) rfl) ix (oNe_int _ _))
      rw [Int.toNat_natCast] at this
      exact this
    have e : ((((stepN nt s).zipIdx 0).filter fun z => decide (z.1 ≠ s.getD z.2 0)).map fun z => PyData.int (z.2 : Nat)) = iL (restN nt s) := by
      unfold restN iL
      rw [List.map_map]
      rfl
    rw [e] at lc
    exact q_ret (lc.dr rfl)
  obtain ⟨z, h, e, f, rfl, rfl⟩ := w.det0
  exact ⟨f, h⟩
theorem law_restless_eq (iN : Nat) : S__law_e_restless iN = S_restless_by iN := rfl
/-- a switch turned -/
def flipN (s : List Int) (k : Int) : List Int := s.set k.toNat (1 - s.getD k.toNat 0)
theorem sp_flipped {sd : PyData} {s : List Int} {k : Int} (hsd : Sq sd (iL s)) (hl : s.length ≤ 1000) (h0 : 0 ≤ k) (hk : k < s.length) : ∃ f, callS S_flipped 2 4 Γ [.dat sd, .dat (.int k)] = .ret (.dat (tI (flipN s k)), f) := by
  have w : Wp 0 (callS S_flipped 2 4 Γ [.dat sd, .dat (.int k)]) fun z => ∃ e f, z = (.dat e, f) ∧ e = tI (flipN s k) := by
    refine Wp.callRT rfl ?_
    have s0 : St (startN 4 [.dat sd, .dat (.int k)]) [some (.dat sd), some (.dat (.int k)), none, none] [] := st_start rfl
    have en := ei_enumA (Γ := Γ) (s0.v.ev (i := 0) rfl) hsd
    rw [enumD_iL] at en
    have lc := ev_lcM (Γ := Γ) (own := [2, 3]) (g := gTup [gSlot 2, gSlot 3]) (e := eIf (tVal (eOp oEq (eVar 2) (eVar 1))) (eOp oSub (eC (.int 1)) (eVar 3)) (eVar 3)) (items := s.zipIdx 0) (p := fun z => .tuple [.int (z.2 : Nat), .int z.1]) (V := fun z => .int (if (z.2 : Int) = k then 1 - z.1 else z.1)) (T' := [3]) s0.v en (by rw [List.length_zipIdx]; omega) fun z hz σ0 h0 => by
      obtain ⟨σ1, g1, g2⟩ := h0.slot2 2 3 (.int (z.2 : Nat)) (.int z.1)
      refine ⟨σ1, g1, ev_if (ev_tval (ev_op (g2.ev (i := 2) (d := .int (z.2 : Nat)) rfl) (g2.ev (i := 1) (d := .int k) rfl) (oEq_int _ _))) (fun hc => ?_) fun hc => ?_⟩
      · rw [if_pos (of_decide_eq_true hc)]
        exact (ev_op (op := oSub) (ev_c (.int 1)) (g2.ev (i := 3) (d := .int z.1) rfl) rfl).sub fun _ h => by cases h
      · rw [if_neg (of_decide_eq_false hc)]
        exact g2.ev rfl
    have e : ((s.zipIdx 0).map fun z => PyData.int (if (z.2 : Int) = k then 1 - z.1 else z.1)) = iL (flipN s k) := by
      unfold iL flipN
      apply List.ext_getElem
      · simp
      · intro i h1 h2
        have hi : i < s.length := by simpa using h1
        simp only [List.getElem_map, List.getElem_zipIdx, List.getElem_set, Nat.zero_add]
        by_cases c : (i : Int) = k
        · have c2 : k.toNat = i := by omega
          rw [if_pos c, if_pos c2, c2, List.getD_eq_getElem?_getD, List.getElem?_eq_getElem hi]
          rfl
        · have c2 : ¬ k.toNat = i := by omega
          rw [if_neg c, if_neg c2]
    rw [e] at lc
    exact q_ret ((ev_tuple lc (.inl rfl)).dr rfl)
  obtain ⟨z, h, e, f, rfl, rfl⟩ := w.det0
  exact ⟨f, h⟩
/-- the law's turning: lists cut and put together -/
theorem ev_slHi {a b : SemE} {σ : SD} {T T' : List Nat} {zs : List Int} {k : Nat} (h : Ev Γ a σ (lI zs) T) (hb : Ev Γ b σ (.int k) T') : Ev Γ (eSl a oNone (oSome b)) σ (lI (zs.take k)) T := by
  obtain ⟨x, h1, h2, h3⟩ := h
  obtain ⟨y, g1, g2, _⟩ := hb
  refine ⟨fin (lI (zs.take k)) x.t (subF x (lI (zs.take k))), ?_, fin_v _ _ _, fun t ht => h3 t (fin_t _ _ _ t ht)⟩
  unfold eSl oNone oSome
  rw [h1, bind_ret, bind_ret, g1, bind_ret, g2]
  dsimp only
  rw [bind_ret]
  unfold slK
  rw [h2]
  show M.ret (fin (.list (cutD (iL zs) none (some (k : Int)))) x.t _) = _
  rw [cutHi]
  unfold lI iL
  rw [List.map_take]
theorem ev_slLo {a b : SemE} {σ : SD} {T T' : List Nat} {zs : List Int} {k : Nat} (h : Ev Γ a σ (lI zs) T) (hb : Ev Γ b σ (.int k) T') (hk : k ≤ zs.length) : Ev Γ (eSl a (oSome b) oNone) σ (lI (zs.drop k)) T := by
  obtain ⟨x, h1, h2, h3⟩ := h
  obtain ⟨y, g1, g2, _⟩ := hb
  refine ⟨fin (lI (zs.drop k)) x.t (subF x (lI (zs.drop k))), ?_, fin_v _ _ _, fun t ht => h3 t (fin_t _ _ _ t ht)⟩
  unfold eSl oNone oSome
  rw [h1, bind_ret, g1, bind_ret, g2]
  dsimp only
  rw [bind_ret, bind_ret]
  unfold slK
  rw [h2]
  show M.ret (fin (.list (cutD (iL zs) (some (k : Int)) none)) x.t _) = _
  rw [cutN _ (by rw [List.length_map]; exact hk)]
  unfold lI iL
  rw [List.map_drop]
theorem flip_cut (s : List Int) {k : Nat} (h : k < s.length) : s.take k ++ [1 - s.getD k 0] ++ s.drop (k + 1) = s.set k (1 - s.getD k 0) := by
  apply List.ext_getElem?
  intro i
  rw [List.getElem?_set, List.append_assoc]
  by_cases c : i < k
  · rw [List.getElem?_append_left (by rw [List.length_take]; omega), List.getElem?_take_of_lt c, if_neg (by omega)]
  · rw [List.getElem?_append_right (by rw [List.length_take]; omega), List.length_take, Nat.min_eq_left (by omega)]
    by_cases e : i = k
    · subst e
      rw [Nat.sub_self, if_pos rfl, if_pos h]
      rfl
    · rw [if_neg (by omega), List.getElem?_append_right (by simp; omega), List.getElem?_drop]
      congr 1
      simp
      omega
theorem sp_law_flipped {s : List Int} {k : Int} (hl : s.length ≤ 1000) (h0 : 0 ≤ k) (hk : k < s.length) : ∃ f, callS S__law_e_flipped 2 2 Γ [.dat (lI s), .dat (.int k)] = .ret (.dat (lI (flipN s k)), f) := by
  obtain ⟨n, rfl⟩ : ∃ n : Nat, k = n := ⟨k.toNat, by omega⟩
  have hn : n < s.length := by omega
  have w : Wp 0 (callS S__law_e_flipped 2 2 Γ [.dat (lI s), .dat (.int (n : Nat))]) fun z => ∃ e f, z = (.dat e, f) ∧ e = lI (flipN s n) := by
    refine Wp.callRT rfl ?_
    have s0 : St (startN 2 [.dat (lI s), .dat (.int (n : Nat))]) [some (.dat (lI s)), some (.dat (.int (n : Nat)))] [] := st_start rfl
    have v0 := s0.v.ev (Γ := Γ) (i := 0) (d := lI s) rfl
    have v1 := s0.v.ev (Γ := Γ) (i := 1) (d := .int (n : Nat)) rfl
    have ix := ev_ix (Γ := Γ) v0 (.inl rfl) v1 (by omega) (iL_get (by omega) (by omega))
    rw [Int.toNat_natCast] at ix
    have mid : Ev Γ (eLst (aCons (eOp oSub (eC (.int 1)) (eIx (eVar 0) (eVar 1))) aNil)) (startN 2 [.dat (lI s), .dat (.int (n : Nat))]) (.list [.int (1 - s.getD n 0)]) [] := ev_lst (ds := [.int (1 - s.getD n 0)]) (eva_cons (ev_op (op := oSub) (ev_c (.int 1)) ix rfl) eva_nil) (show 1 ≤ 16777216 by decide)
    have a1 := ev_addL (ev_slHi v0 v1) mid (by rw [List.length_map, List.length_take]; simp; omega)
    have a2 := ev_addL a1 (ev_slLo v0 (ev_add v1 (ev_c (.int 1))) (k := n + 1) (by omega)) (by rw [List.length_append, List.length_map, List.length_take, List.length_map, List.length_drop]; simp; omega)
    have e : (PyData.list (iL (s.take n) ++ [.int (1 - s.getD n 0)] ++ iL (s.drop (n + 1)))) = lI (flipN s n) := by
      unfold flipN lI
      rw [Int.toNat_natCast, ← flip_cut s hn]
      unfold iL
      rw [List.map_append, List.map_append]
      rfl
    rw [e] at a2
    exact q_ret (a2.dr rfl)
  obtain ⟨z, h, e, f, rfl, rfl⟩ := w.det0
  exact ⟨f, h⟩
end DD
set_option Elab.async false
set_option linter.all false
set_option maxRecDepth 100000
set_option maxHeartbeats 4000000
/-! P27: any object as a state; loops that may return; is_way of any object. -/
namespace DD
open PySem
variable {Γ : FEnv}
/-- zeros and ones read -/
def bitsD : List PyData → Option (List Int)
  | [] => some []
  | .int i :: r => if 0 ≤ i ∧ i < 2 then (bitsD r).map (i :: ·) else none
  | _ => none
/-- any object as a state of m switches -/
def stOf (m : Nat) : PyData → Option (List Int)
  | .list xs => if xs.length = m then bitsD xs else none
  | .tuple xs => if xs.length = m then bitsD xs else none
  | _ => none
theorem bitsD_some : ∀ {xs : List PyData} {s : List Int}, bitsD xs = some s → xs = iL s ∧ Bits s
  | [], _, h => by cases h; exact ⟨rfl, fun _ z => by cases z⟩
  | x :: xs, s, h => by
    cases x with
    | int i =>
      unfold bitsD at h
      split at h
      · rename_i hi
        obtain ⟨r, hr, rfl⟩ := Option.map_eq_some_iff.mp h
        obtain ⟨e, hb⟩ := bitsD_some hr
        refine ⟨by rw [e]; rfl, fun b hb' => ?_⟩
        rcases List.mem_cons.mp hb' with rfl | hb'
        · omega
        · exact hb b hb'
      · cases h
    | _ => cases h
theorem bitsD_all : ∀ xs : List PyData, (xs.all (isBelowD 2)) = (bitsD xs).isSome
  | [] => rfl
  | x :: xs => by
    rw [List.all_cons, bitsD_all xs]
    cases x with
    | int i =>
      have hs : bitsD (.int i :: xs) = if 0 ≤ i ∧ i < 2 then (bitsD xs).map (i :: ·) else none := rfl
      rw [hs]
      show ((decide (0 ≤ i) && decide (i < 2)) && (bitsD xs).isSome) = _
      by_cases hi : 0 ≤ i ∧ i < 2
      · rw [if_pos hi, decide_eq_true hi.1, decide_eq_true hi.2]
        cases bitsD xs <;> rfl
      · rw [if_neg hi]
        have : (decide (0 ≤ i) && decide (i < 2)) = false := by
          rw [Bool.and_eq_false_iff, decide_eq_false_iff_not, decide_eq_false_iff_not]
          omega
        rw [this]
        rfl
    | _ => rfl
def optI : Option (List Int) → PyData
  | some s => tI s
  | none => .none
theorem sp_kept_values_any {iR iB : Nat} (hR : ∀ d n, Γ iR [.dat d, .dat (.int n)] = .ret (.dat (.bool (isRowD n d)), .all)) (hB : ∀ d m, Γ iB [.dat d, .dat (.int m)] = .ret (.dat (.bool (isBelowD m d)), .all))
    (d : PyData) (m : Nat) (hm : m ≤ 1000) : ∃ f, callS (S_kept_values iR iB) 2 3 Γ [.dat (.int m), .dat d] = .ret (.dat (optI (stOf m d)), f) := by
  have w : Wp 0 (callS (S_kept_values iR iB) 2 3 Γ [.dat (.int m), .dat d]) fun z => ∃ e f, z = (.dat e, f) ∧ e = optI (stOf m d) := by
    refine Wp.callRT rfl ?_
    have s0 : St (startN 3 [.dat (.int m), .dat d]) [some (.dat (.int m)), some (.dat d), none] [] := st_start rfl
    have cr : tVal (eCall iR (aCons (eVar 1) (aCons (eVar 0) aNil))) Γ (startN 3 [.dat (.int m), .dat d]) = .ret (isRowD m d) := ev_tval (ev_call (eva_cons (s0.v.ev (i := 1) rfl) (eva_cons (s0.v.ev (i := 0) rfl) eva_nil)) (hR d m))
    cases hr : isRowD m d with
    | false =>
      have e : stOf m d = none := by
        cases d with
        | list xs =>
          have h2 : decide ((xs.length : Int) = m) = false := hr
          exact if_neg (by have := of_decide_eq_false h2; omega)
        | tuple xs =>
          have h2 : decide ((xs.length : Int) = m) = false := hr
          exact if_neg (by have := of_decide_eq_false h2; omega)
        | _ => rfl
      rw [e]
      refine q_ret (T := []) ((ev_if (k := false) ?_ (fun z => by cases z) fun _ => ev_c _).dr rfl)
      unfold tAnd
      rw [cr, hr, bind_ret, if_neg (by simp)]
    | true =>
      obtain ⟨xs, hs, hl⟩ : ∃ xs, Sq d xs ∧ xs.length = m := by
        cases d with
        | list xs => exact ⟨xs, .inl rfl, by have h2 : decide ((xs.length : Int) = m) = true := hr; have := of_decide_eq_true h2; omega⟩
        | tuple xs => exact ⟨xs, .inr rfl, by have h2 : decide ((xs.length : Int) = m) = true := hr; have := of_decide_eq_true h2; omega⟩
        | _ => cases hr
      have e : stOf m d = bitsD xs := by rcases hs with rfl | rfl <;> exact if_pos hl
      have lc := ev_lc1 (Γ := Γ) (own := [2]) (g := gSlot 2) (e := eCall iB (aCons (eVar 2) (aCons (eC (.int 2)) aNil))) (f := fun x => .bool (isBelowD 2 x)) (T' := [2]) s0.v (ei_val (s0.v.ev (i := 1) rfl) hs) (by omega) fun x _ σ0 h0 => by
        obtain ⟨σ1, g1, g2⟩ := h0.slot 2 x
        exact ⟨σ1, g1, ev_call (eva_cons (g2.ev rfl) (eva_cons (ev_c (.int 2)) eva_nil)) (hB x 2)⟩
      have al : tVal (eAll (eLc [2] (iVal (eVar 1)) (gSlot 2) tYesD (eCall iB (aCons (eVar 2) (aCons (eC (.int 2)) aNil))))) Γ (startN 3 [.dat (.int m), .dat d]) = .ret (xs.all (isBelowD 2)) := by
        refine ev_tval (ev_un (op := oAll) lc ?_)
        unfold oAll
        dsimp only
        rw [bools_map]
        show some (PyData.bool ((xs.map (isBelowD 2)).all id)) = _
        rw [List.all_map]
        rfl
      rw [bitsD_all] at al
      rw [e]
      have tt := tAnd_of cr al
      rw [hr, Bool.true_and] at tt
      refine q_ret (T := [1]) (Ev.dr (d := optI (bitsD xs)) (ev_if tt (fun hc => ?_) fun hc => ?_) rfl)
      · cases hb : bitsD xs with
        | none => rw [hb] at hc; cases hc
        | some s =>
          have ex := (bitsD_some hb).1
          have := ev_tuple (s0.v.ev (Γ := Γ) (i := 1) (d := d) rfl) hs
          rw [ex] at this
          exact this
      · cases hb : bitsD xs with
        | none => exact (ev_c _).sub fun _ h => by cases h
        | some s => rw [hb] at hc; cases hc
  obtain ⟨z, h, e, f, rfl, rfl⟩ := w.det0
  exact ⟨f, h⟩
/-! loops that may return -/
theorem forGo_ret {c : Nat} {g : SemG} {b : SemS} {I : Nat → SD → Prop} {P : PyData → Prop} : ∀ (items : List PyData) (k : Nat) {σ : SD}, I k σ → (∀ j x σ, items[j]? = some x → I (k + j) σ → ∃ σ1, g x σ = .ret σ1 ∧ Wp c (b Γ σ1) (fun o => NX (I (k + j + 1)) o ∨ RT P o)) → Wp (c * items.length) (forGo g b Γ items σ) (fun o => NX (I (k + items.length)) o ∨ RT P o)
  | [], k, σ, h, _ => Wp.retc (.inl ⟨σ, rfl, h⟩)
  | x :: xs, k, σ, h, hb => by
    obtain ⟨σ1, h1, h2⟩ := hb 0 x σ rfl h
    unfold forGo
    rw [h1, bind_ret]
    refine (Wp.bind (c2 := c * xs.length) h2 fun o ho => ?_).mono (by rw [List.length_cons, Nat.mul_succ]; omega) fun _ z => z
    rcases ho with ⟨σ2, rfl, h3⟩ | ⟨d, f, σ2, rfl, p⟩
    · have := forGo_ret (I := I) (P := P) (σ := σ2) xs (k + 1) h3 fun j y σ hj hI => by
        have := hb (j + 1) y σ (by simpa using hj) (by rw [show k + (j + 1) = k + 1 + j by omega]; exact hI)
        rw [show k + (j + 1) = k + 1 + j by omega] at this
        exact this
      rw [List.length_cons, show k + (xs.length + 1) = k + 1 + xs.length by omega]
      exact this
    · exact Wp.retc (.inr ⟨d, f, σ2, rfl, p⟩)
theorem q_forR {c1 c2 : Nat} {σ : SD} {g : SemG} {it : SemI} {b b' : SemS} {items : List PyData} {I : Nat → SD → Prop} {T : List Nat} {P : PyData → Prop} (hi : EvI Γ it σ items T) (h0 : ∀ ct, (∀ x ∈ ct, x ∈ T) → I 0 (demote ct σ)) (hb : ∀ k x σ, items[k]? = some x → I k σ → ∃ σ1, g x σ = .ret σ1 ∧ Wp c1 (b Γ σ1) (fun o => NX (I (k + 1)) o ∨ RT P o))
    (k : ∀ σ', I items.length σ' → Wp c2 (b' Γ σ') (RT P)) : Wp (c1 * items.length + c2) (sSeq (sFor it g b) b' Γ σ) (RT P) := by
  obtain ⟨ct, hc, hct⟩ := hi
  refine Wp.seq (Q1 := fun o => NX (I items.length) o ∨ RT P o) ?_ fun o ho => ?_
  · unfold sFor
    rw [hc, bind_ret]
    have := forGo_ret (c := c1) (b := b) (Γ := Γ) (g := g) (I := I) (P := P) items 0 (h0 ct hct) fun j x σ hj hI => by
      rw [Nat.zero_add] at hI ⊢
      exact hb j x σ hj hI
    rwa [Nat.zero_add] at this
  · rcases ho with ⟨σ2, rfl, h3⟩ | ⟨d, f, σ2, rfl, p⟩
    · exact k σ2 h3
    · exact Wp.retc ⟨d, f, σ2, rfl, p⟩
/-- a test that returns, or goes on -/
theorem q_ifor {c : Nat} {σ : SD} {t : SemT} {a b : SemS} {k : Bool} {Q : SD → Prop} {P : PyData → Prop} (ht : t Γ σ = .ret k) (h1 : k = true → Wp c (a Γ σ) (RT P)) (h2 : k = false → Wp c (b Γ σ) (fun o => NX Q o ∨ RT P o)) : Wp c (sSeq (sIf t a sNil) b Γ σ) (fun o => NX Q o ∨ RT P o) := by
  cases k with
  | true => exact (q_ifret ht (h1 rfl)).mono (Nat.le_refl _) fun o z => .inr z
  | false => exact q_iff ht (h2 rfl)
end DD
set_option Elab.async false
set_option linter.all false
set_option maxRecDepth 100000
set_option maxHeartbeats 4000000
/-! P28: is_way of any object, by the program and by a law. -/
namespace DD
open PySem
variable {Γ : FEnv}
theorem eqv_int (a b : Int) : PyData.eqv (.int a) (.int b) = decide (a = b) := by
  show (a == b) = _
  by_cases h : a = b
  · subst h; simp
  · rw [beq_eq_false_iff_ne.mpr h, decide_eq_false h]
theorem any_iL (k : Int) : ∀ zs : List Int, ((iL zs).any fun y => PyData.eqv y (.int k)) = decide (k ∈ zs)
  | [] => by simp
  | z :: zs => by
    show (PyData.eqv (.int z) (.int k) || (iL zs).any fun y => PyData.eqv y (.int k)) = _
    rw [any_iL k zs, eqv_int]
    by_cases h : z = k
    · subst h; simp
    · have h' : ¬ k = z := fun e => h e.symm
      by_cases h2 : k ∈ zs <;> simp [h, h', h2]
theorem oNotIn_iL (k : Int) (zs : List Int) : oNotIn (.int k) (lI zs) = some (.bool (decide (k ∉ zs))) := by
  unfold oNotIn lI
  dsimp only
  have ok : inOk (.int k) (iL zs) = true := by
    unfold inOk
    have h1 : PyData.plainAll (iL zs) = true := plainAll_iL zs
    rw [h1]
    simp [PyData.plain, PyData.depth]
  rw [if_pos ok, any_iL]
  by_cases h : k ∈ zs <;> simp [h]
/-- whether these are the switches of a run from s to g -/
def wayB (nt : NetT) (g : List Int) : List Int → List PyData → Bool
  | s, [] => decide (s = g)
  | s, .int k :: xs => if k ∈ restN nt s then wayB nt g (flipN s k) xs else false
  | _, _ :: _ => false
def isWayD (nt : NetT) (s g : List Int) : PyData → Bool
  | .list xs => wayB nt g s xs
  | .tuple xs => wayB nt g s xs
  | _ => false
theorem flipN_mem {n : Nat} {s : List Int} {k : Int} (hs : s ∈ stD n) (h0 : 0 ≤ k) (hk : k < n) : flipN s k ∈ stD n := by
  obtain ⟨hl, hb⟩ := stD_mem.mp hs
  refine stD_mem.mpr ⟨by unfold flipN; rw [List.length_set, hl], fun x hx => ?_⟩
  unfold flipN at hx
  rcases List.mem_or_eq_of_mem_set hx with h | h
  · exact hb x h
  · have hi : k.toNat < s.length := by omega
    have := hb (s[k.toNat]) (List.getElem_mem hi)
    rw [List.getD_eq_getElem?_getD, List.getElem?_eq_getElem hi] at h
    simp at h
    omega
theorem wayB_cons_false {nt : NetT} {g s : List Int} {x : PyData} {xs : List PyData} (h : ∀ k, x = .int k → k ∉ restN nt s) : wayB nt g s (x :: xs) = false := by
  cases x with
  | int k =>
    show (if k ∈ restN nt s then wayB nt g (flipN s k) xs else false) = false
    rw [if_neg (h k rfl)]
  | _ => rfl
theorem isBelowD_int {m : Int} {x : PyData} (h : isBelowD m x = true) : ∃ k, x = .int k ∧ 0 ≤ k ∧ k < m := by
  cases x with
  | int k =>
    have h : (decide (0 ≤ k) && decide (k < m)) = true := h
    rw [Bool.and_eq_true, decide_eq_true_eq, decide_eq_true_eq] at h
    exact ⟨k, rfl, h.1, h.2⟩
  | _ => cases h
/-- one step of either text -/
theorem way_step {σ : SD} {n : Nat} {x : PyData} {s g : List Int} {nt : NetT} {rest : List PyData} {tb tr : SemT} {a b : SemS} {Q : SD → Prop} {R : Bool} (hn : nt.length = n) (e : wayB nt g s (x :: rest) = R) (h1 : tb Γ σ = .ret (isBelowD n x)) (h2 : ∀ k, x = .int k → 0 ≤ k → k < n → tr Γ σ = .ret (decide (k ∉ restN nt s)))
    (ha : R = false → Wp 0 (a Γ σ) (RT fun d => d = .bool R)) (hb : ∀ k, x = .int k → 0 ≤ k → k < n → wayB nt g (flipN s k) rest = R → Wp 0 (b Γ σ) (fun o => NX Q o ∨ RT (fun d => d = .bool R) o)) :
    Wp 0 (sSeq (sIf (tOr (tNot tb) tr) a sNil) b Γ σ) (fun o => NX Q o ∨ RT (fun d => d = .bool R) o) := by
  cases hx : isBelowD n x with
  | false =>
    have t : tOr (tNot tb) tr Γ σ = .ret true := by
      unfold tOr
      rw [tNot_of h1, hx, bind_ret]
      rfl
    refine q_ifor t (fun _ => ha ?_) fun z => by cases z
    rw [← e]
    refine wayB_cons_false fun k hk hm => ?_
    subst hk
    obtain ⟨m0, m1⟩ := restN_mem hm
    have : isBelowD n (.int k) = true := by
      show (decide (0 ≤ k) && decide (k < (n : Int))) = true
      rw [decide_eq_true m0, decide_eq_true (by omega)]
      rfl
    rw [this] at hx
    cases hx
  | true =>
    obtain ⟨k, rfl, k0, k1⟩ := isBelowD_int hx
    have t : tOr (tNot tb) tr Γ σ = .ret (decide (k ∉ restN nt s)) := by
      have := tOr_of (tNot_of h1) (h2 k rfl k0 k1)
      rw [hx] at this
      exact this
    have e : (if k ∈ restN nt s then wayB nt g (flipN s k) rest else false) = R := e
    refine q_ifor t (fun hc => ha ?_) fun hc => hb k rfl k0 k1 ?_
    · rw [if_neg (of_decide_eq_true hc)] at e
      exact e.symm
    · have hm : k ∈ restN nt s := by
        have := of_decide_eq_false hc
        exact Decidable.not_not.mp this
      rw [if_pos hm] at e
      exact e
theorem Ev.retB {σ : SD} {e : SemE} {T : List Nat} {b c : SemS} {k : Bool} {P : PyData → Prop} (h : Ev Γ e σ (.bool k) T) (p : P (.bool k)) : Wp 0 (sSeq (sRet e) b Γ σ) (RT P) := q_ret (h.dr p)
theorem sp_is_way {iN iS iG iL' iB iR iF : Nat} {d sd gd x : PyData} {nt : NetT} {s g : List Int} (h5 : nt.length ≤ 20) (hs : s ∈ stT nt) (hN : ∃ f, Γ iN [.dat d] = .ret (.dat (keptN nt), f)) (hS : ∃ f, Γ iS [.dat (keptN nt), .dat sd] = .ret (.dat (tI s), f)) (hG : ∃ f, Γ iG [.dat (keptN nt), .dat gd] = .ret (.dat (tI g), f))
    (hL : ∀ d, Γ iL' [.dat d] = .ret (.dat (.bool (isL d)), .all)) (hB : ∀ d m, Γ iB [.dat d, .dat (.int m)] = .ret (.dat (.bool (isBelowD m d)), .all)) (hR : ∀ s ∈ stT nt, ∃ f, Γ iR [.dat (keptN nt), .dat (tI s)] = .ret (.dat (lI (restN nt s)), f))
    (hF : ∀ s ∈ stT nt, ∀ k : Int, 0 ≤ k → k < nt.length → ∃ f, Γ iF [.dat (tI s), .dat (.int k)] = .ret (.dat (tI (flipN s k)), f)) :
    ∃ f, callS (S_is_way iN iS iG iL' iB iR iF) 4 8 Γ [.dat d, .dat sd, .dat gd, .dat x] = .ret (.dat (.bool (isWayD nt s g x)), f) := by
  obtain ⟨fN, hN⟩ := hN
  obtain ⟨fS, hS⟩ := hS
  obtain ⟨fG, hG⟩ := hG
  have w : Wp 0 (callS (S_is_way iN iS iG iL' iB iR iF) 4 8 Γ [.dat d, .dat sd, .dat gd, .dat x]) fun z => ∃ e f, z = (.dat e, f) ∧ e = .bool (isWayD nt s g x) := by
    refine Wp.callRT rfl ?_
    have s0 : St (startN 8 [.dat d, .dat sd, .dat gd, .dat x]) [some (.dat d), some (.dat sd), some (.dat gd), some (.dat x), none, none, none, none] [] := st_start rfl
    refine q_set0 (i := 4) s0 (ev_call (eva_cons (s0.v.ev (i := 0) rfl) eva_nil) hN) rfl fun σ4 s4 => ?_
    refine q_set0 (i := 5) s4 (ev_call (eva_cons (s4.v.ev (i := 4) rfl) (eva_cons (s4.v.ev (i := 1) rfl) eva_nil)) hS) rfl fun σ5 s5 => ?_
    refine q_set0 (i := 6) s5 (ev_call (eva_cons (s5.v.ev (i := 4) rfl) (eva_cons (s5.v.ev (i := 2) rfl) eva_nil)) hG) rfl fun σ6 s6 => ?_
    have tl := tNot_of (ev_tval (ev_call (eva_cons (s6.v.ev (Γ := Γ) (i := 3) (d := x) rfl) eva_nil) (hL x)))
    cases hx : isL x with
    | false =>
      have e : isWayD nt s g x = false := by cases x <;> first | rfl | cases hx
      rw [e]
      rw [hx] at tl
      exact q_ifret tl (q_ret ((ev_c _).dr rfl))
    | true =>
      rw [hx] at tl
      refine q_iff tl ?_
      obtain ⟨xs, hsq, e⟩ : ∃ xs, Sq x xs ∧ isWayD nt s g x = wayB nt g s xs := by
        cases x with
        | list xs => exact ⟨xs, .inl rfl, rfl⟩
        | tuple xs => exact ⟨xs, .inr rfl, rfl⟩
        | _ => cases hx
      rw [e]
      refine (q_forR (c1 := 0) (c2 := 0) (I := fun k σ => ∃ sk o7, Vw σ [some (.dat d), some (.dat sd), some (.dat gd), some (.dat x), some (.dat (keptN nt)), some (.dat (tI sk)), some (.dat (tI g)), o7] ∧ sk ∈ stT nt ∧ wayB nt g sk (xs.drop k) = wayB nt g s xs)
        (ei_val (s6.v.ev (i := 3) rfl) hsq) (fun ct _ => ⟨s, none, s6.v.demote ct, hs, rfl⟩) (fun k y σ hy hI => ?_) fun σ' hI => ?_).le (by omega)
      · obtain ⟨sk, o7, v, hsk, hw⟩ := hI
        obtain ⟨σ1, g1, g2⟩ := v.slot 7 y
        refine ⟨σ1, g1, ?_⟩
        have st : St σ1 _ [] := ⟨g2, fun _ z => by cases z⟩
        have hd : xs.drop k = y :: xs.drop (k + 1) := drop_at hy
        rw [hd] at hw
        have sl : sk.length = nt.length := (stD_mem.mp hsk).1
        refine way_step (n := nt.length) rfl hw (ev_tval (ev_call (eva_cons (g2.ev (i := 7) rfl) (eva_cons (ev_len (g2.ev (i := 4) (d := keptN nt) rfl) (.inr rfl)) eva_nil)) (by rw [List.length_map]; exact hB y _))) (fun kk hk k0 k1 => ?_) (fun hr => ?_) fun kk hk k0 k1 hr => ?_
        · subst hk
          obtain ⟨fR, hR⟩ := hR sk hsk
          exact ev_tval (ev_op (g2.ev (i := 7) (d := .int kk) rfl) (ev_call (eva_cons (g2.ev (i := 4) rfl) (eva_cons (g2.ev (i := 5) rfl) eva_nil)) hR) (oNotIn_iL _ _))
        · rw [hr]
          exact q_ret ((ev_c _).dr rfl)
        · subst hk
          obtain ⟨fF, hF⟩ := hF sk hsk kk k0 k1
          refine q_set0 (i := 5) st (ev_call (eva_cons (g2.ev (i := 5) rfl) (eva_cons (g2.ev (i := 7) rfl) eva_nil)) hF) rfl fun σ2 s2 => ?_
          exact (q_nil (Q1 := fun σ => ∃ sk o7, Vw σ [some (.dat d), some (.dat sd), some (.dat gd), some (.dat x), some (.dat (keptN nt)), some (.dat (tI sk)), some (.dat (tI g)), o7] ∧ sk ∈ stT nt ∧ wayB nt g sk (xs.drop (k + 1)) = wayB nt g s xs) ⟨flipN sk kk, some (.dat (.int kk)), s2.v, flipN_mem hsk k0 k1, hr⟩).mono (Nat.le_refl _) fun o z => .inl z
      · obtain ⟨sk, o7, v, hsk, hw⟩ := hI
        rw [List.drop_length] at hw
        rw [← hw]
        exact q_ret ((ev_op (v.ev (i := 5) rfl) (v.ev (i := 6) rfl) (oEq_tI sk g)).dr rfl)
  obtain ⟨z, h, e, f, rfl, rfl⟩ := w.det0
  exact ⟨f, h⟩
theorem sp_law_number {m : Int} (d : PyData) : ∃ f, callS S__law_is_number 2 2 Γ [.dat d, .dat (.int m)] = .ret (.dat (.bool (isBelowD m d)), f) := by
  cases d with
  | int k =>
    have w : Wp 0 (callS S__law_is_number 2 2 Γ [.dat (.int k), .dat (.int m)]) fun z => ∃ e f, z = (.dat e, f) ∧ e = .bool (isBelowD m (.int k)) := by
      refine Wp.callRT rfl ?_
      have s0 : St (startN 2 [.dat (.int k), .dat (.int m)]) [some (.dat (.int k)), some (.dat (.int m))] [] := st_start rfl
      have v0 := s0.v.ev (Γ := Γ) (i := 0) (d := .int k) rfl
      have v1 := s0.v.ev (Γ := Γ) (i := 1) (d := .int m) rfl
      refine q_ret (T := []) ?_
      have hge : Ev Γ (eOp oGe (eVar 0) (eC (.int 0))) (startN 2 [.dat (.int k), .dat (.int m)]) (.bool (decide (0 ≤ k))) [] := ev_op v0 (ev_c _) rfl
      have hlt : Ev Γ (eOr (eOp oIsN (eVar 1) (eC .none)) (eOp oLt (eVar 0) (eVar 1))) (startN 2 [.dat (.int k), .dat (.int m)]) (.bool (decide (k < m))) [] := by
        obtain ⟨r, r1, r2, r3⟩ := ev_op (Γ := Γ) (op := oLt) (r := .bool (decide (k < m))) v0 v1 rfl
        obtain ⟨q, q1, q2, q3⟩ := ev_op (Γ := Γ) (op := oIsN) (r := .bool false) v1 (ev_c .none) rfl
        refine ⟨r, ?_, r2, r3⟩
        unfold eOr
        rw [q1, bind_ret]
        unfold truR
        rw [q2]
        exact r1
      have hand : ∀ {a b : SemE} {x y : Bool} {σ : SD}, Ev Γ a σ (.bool x) [] → Ev Γ b σ (.bool y) [] → Ev Γ (eAnd a b) σ (.bool (x && y)) [] := fun {a b x y σ} ha hb => by
        obtain ⟨r, r1, r2, r3⟩ := ha
        unfold Ev eAnd
        rw [r1, bind_ret]
        unfold truR
        rw [r2]
        cases x with
        | true => exact hb
        | false => exact ⟨r, rfl, r2, r3⟩
      have i1 : Ev Γ (eIsi (eVar 0) [.int]) (startN 2 [.dat (.int k), .dat (.int m)]) (.bool true) [] := ev_un v0 rfl
      have i2 : Ev Γ (eNot (eIsi (eVar 0) [.bool])) (startN 2 [.dat (.int k), .dat (.int m)]) (.bool true) [] := by
        obtain ⟨r, r1, r2, r3⟩ := ev_un (Γ := Γ) (op := isiO [.bool]) (r := .bool false) v0 rfl
        refine ev_rP ?_
        unfold eNot eIsi
        rw [r1, bind_ret]
        unfold truR
        rw [r2]
        rfl
      exact (hand i1 (hand i2 (hand hge hlt))).dr (by simp [isBelowD])
    obtain ⟨z, h, e, f, rfl, rfl⟩ := w.det0
    exact ⟨f, h⟩
  | bool b => exact ⟨.all, by kernel_rfl⟩
  | none => exact ⟨.all, by kernel_rfl⟩
  | str s => exact ⟨.all, by kernel_rfl⟩
  | list xs => exact ⟨.all, by kernel_rfl⟩
  | tuple xs =>
    have w : Wp 0 (callS S__law_is_number 2 2 Γ [.dat (.tuple xs), .dat (.int m)]) fun z => ∃ e f, z = (.dat e, f) ∧ e = .bool (isBelowD m (.tuple xs)) := by
      refine Wp.callRT rfl ?_
      have s0 : St (startN 2 [.dat (.tuple xs), .dat (.int m)]) [some (.dat (.tuple xs)), some (.dat (.int m))] [] := st_start rfl
      obtain ⟨r, r1, r2, r3⟩ := ev_un (Γ := Γ) (op := isiO [.int]) (r := .bool false) (s0.v.ev (i := 0) (d := .tuple xs) rfl) rfl
      refine q_ret (T := []) (Ev.dr (d := .bool false) ⟨r, ?_, r2, r3⟩ rfl)
      unfold eAnd eIsi
      rw [r1, bind_ret]
      unfold truR
      rw [r2]
      rfl
    obtain ⟨z, h, e, f, rfl, rfl⟩ := w.det0
    exact ⟨f, h⟩
  | dict xs => exact ⟨.all, by kernel_rfl⟩
theorem sp_law_is_way {iU iR iF : Nat} {d : PyData} {x : PyData} {nt : NetT} {s g : List Int} {ps : List PyData} (hd : Sq d ps) (hps : ps.length = nt.length) (h5 : nt.length ≤ 20) (hs : s ∈ stT nt)
    (hU : ∀ (x : PyData) (m : Nat), ∃ f, Γ iU [.dat x, .dat (.int m)] = .ret (.dat (.bool (isBelowD m x)), f)) (hR : ∀ s ∈ stT nt, ∃ f, Γ iR [.dat d, .dat (lI s)] = .ret (.dat (lI (restN nt s)), f))
    (hF : ∀ s ∈ stT nt, ∀ k : Int, 0 ≤ k → k < nt.length → ∃ f, Γ iF [.dat (lI s), .dat (.int k)] = .ret (.dat (lI (flipN s k)), f)) :
    ∃ f, callS (S__law_is_way iU iR iF) 4 6 Γ [.dat d, .dat (lI s), .dat (lI g), .dat x] = .ret (.dat (.bool (isWayD nt s g x)), f) := by
  have w : Wp 0 (callS (S__law_is_way iU iR iF) 4 6 Γ [.dat d, .dat (lI s), .dat (lI g), .dat x]) fun z => ∃ e f, z = (.dat e, f) ∧ e = .bool (isWayD nt s g x) := by
    refine Wp.callRT rfl ?_
    have s0 : St (startN 6 [.dat d, .dat (lI s), .dat (lI g), .dat x]) [some (.dat d), some (.dat (lI s)), some (.dat (lI g)), some (.dat x), none, none] [] := st_start rfl
    have tl := tNot_of (ev_tval (ev_un (Γ := Γ) (op := isiO [.list, .tuple]) (r := .bool (isL x)) (s0.v.ev (i := 3) (d := x) rfl) (by cases x <;> rfl)))
    cases hx : isL x with
    | false =>
      have e : isWayD nt s g x = false := by cases x <;> first | rfl | cases hx
      rw [e]
      rw [hx] at tl
      exact q_ifret tl (q_ret ((ev_c _).dr rfl))
    | true =>
      rw [hx] at tl
      refine q_iff tl ?_
      refine q_set0 (i := 4) s0 (s0.v.ev (i := 1) rfl) rfl fun σ4 s4 => ?_
      obtain ⟨xs, hsq, e⟩ : ∃ xs, Sq x xs ∧ isWayD nt s g x = wayB nt g s xs := by
        cases x with
        | list xs => exact ⟨xs, .inl rfl, rfl⟩
        | tuple xs => exact ⟨xs, .inr rfl, rfl⟩
        | _ => cases hx
      rw [e]
      refine (q_forR (c1 := 0) (c2 := 0) (I := fun k σ => ∃ sk o5, Vw σ [some (.dat d), some (.dat (lI s)), some (.dat (lI g)), some (.dat x), some (.dat (lI sk)), o5] ∧ sk ∈ stT nt ∧ wayB nt g sk (xs.drop k) = wayB nt g s xs)
        (ei_val (s4.v.ev (i := 3) rfl) hsq) (fun ct _ => ⟨s, none, s4.v.demote ct, hs, rfl⟩) (fun k y σ hy hI => ?_) fun σ' hI => ?_).le (by omega)
      · obtain ⟨sk, o5, v, hsk, hw⟩ := hI
        obtain ⟨σ1, g1, g2⟩ := v.slot 5 y
        refine ⟨σ1, g1, ?_⟩
        have st : St σ1 _ [] := ⟨g2, fun _ z => by cases z⟩
        have hd2 : xs.drop k = y :: xs.drop (k + 1) := drop_at hy
        rw [hd2] at hw
        obtain ⟨fU, hU⟩ := hU y nt.length
        refine way_step (n := nt.length) rfl hw (ev_tval (ev_call (f := fU) (eva_cons (g2.ev (i := 5) rfl) (eva_cons (ev_len (g2.ev (i := 0) (d := d) rfl) hd) eva_nil)) (by rw [hps]; exact hU))) (fun kk hk k0 k1 => ?_) (fun hr => ?_) fun kk hk k0 k1 hr => ?_
        · subst hk
          obtain ⟨fR, hR⟩ := hR sk hsk
          exact ev_tval (ev_op (g2.ev (i := 5) (d := .int kk) rfl) (ev_call (eva_cons (g2.ev (i := 0) rfl) (eva_cons (g2.ev (i := 4) rfl) eva_nil)) hR) (oNotIn_iL _ _))
        · rw [hr]
          exact q_ret ((ev_c _).dr rfl)
        · subst hk
          obtain ⟨fF, hF⟩ := hF sk hsk kk k0 k1
          refine q_set0 (i := 4) st (ev_call (eva_cons (g2.ev (i := 4) rfl) (eva_cons (g2.ev (i := 5) rfl) eva_nil)) hF) rfl fun σ2 s2 => ?_
          exact (q_nil (Q1 := fun σ => ∃ sk o5, Vw σ [some (.dat d), some (.dat (lI s)), some (.dat (lI g)), some (.dat x), some (.dat (lI sk)), o5] ∧ sk ∈ stT nt ∧ wayB nt g sk (xs.drop (k + 1)) = wayB nt g s xs) ⟨flipN sk kk, some (.dat (.int kk)), s2.v, flipN_mem hsk k0 k1, hr⟩).mono (Nat.le_refl _) fun o z => .inl z
      · obtain ⟨sk, o5, v, hsk, hw⟩ := hI
        rw [List.drop_length] at hw
        rw [← hw]
        exact q_ret ((ev_op (v.ev (i := 4) rfl) (v.ev (i := 2) rfl) (oEq_lI sk g)).dr rfl)
  obtain ⟨z, h, e, f, rfl, rfl⟩ := w.det0
  exact ⟨f, h⟩
end DD
set_option Elab.async false
set_option linter.all false
set_option maxRecDepth 100000
set_option maxHeartbeats 4000000
/-! P29: lists of states in order, each once. -/
namespace DD
open PySem
variable {Γ : FEnv} {σ : SD}
theorem lexLt_lt : ∀ a b : List Int, HT.lexLt a b = decide (a < b)
  | [], [] => by rw [HT.lexLt_nil_nil]; simp
  | [], y :: ys => by rw [HT.lexLt_nil_cons]; simp
  | x :: xs, [] => by rw [HT.lexLt_cons_nil]; simp
  | x :: xs, y :: ys => by
    rw [HT.lexLt_cons, lexLt_lt xs ys]
    by_cases h : x = y
    · subst h
      simp [List.cons_lt_cons_iff]
    · rw [if_neg h]
      simp [List.cons_lt_cons_iff, h]
theorem ltl_trans {a b c : List Int} (h1 : a < b) (h2 : b < c) : a < c := List.lt_trans h1 h2
theorem ltl_irrefl (a : List Int) : ¬ a < a := List.lt_irrefl a
theorem lel_of {a b : List Int} (h : a ≤ b) : a < b ∨ a = b := by
  rcases Decidable.em (a < b) with c | c
  · exact .inl c
  · exact .inr (List.le_antisymm h (List.not_lt.mp c))
def srtL (L : List (List Int)) : List (List Int) := L.mergeSort fun a b => decide (a ≤ b)
theorem srtL_le (L : List (List Int)) : (srtL L).Pairwise (· ≤ ·) := by
  have := List.pairwise_mergeSort (le := fun a b : List Int => decide (a ≤ b)) (fun a b c h1 h2 => by
    simp only [decide_eq_true_eq] at *
    exact List.le_trans h1 h2) (fun a b => by
    simp only [Bool.or_eq_true, decide_eq_true_eq]
    exact List.le_total a b) L
  exact this.imp fun h => by simpa using h
theorem sortD_lI (L : List (List Int)) : sortD (L.map lI) = (srtL L).map lI := by
  unfold sortD sortIx
  rw [List.map_mergeSort (r := PySem.W.dataLe false fun i => (L.map lI).getD i PyData.none) (s := PySem.W.dataLe false fun x : PyData => x) (f := fun i => (L.map lI).getD i PyData.none) (fun a _ b _ => rfl), map_getD]
  unfold srtL
  refine (List.map_mergeSort (f := lI) fun a _ b _ => ?_).symm
  have := congrFun (congrFun (PySem.W.dataLe_rows fun x : List Int => x) a) b
  exact this.symm
/-- one more, if it is not the last -/
def stepU (f : List (List Int)) (x : List Int) : List (List Int) := if f.getLast? = some x then f else f ++ [x]
def uniqL (L : List (List Int)) : List (List Int) := (srtL L).foldl stepU []
theorem getLast_le {f : List (List Int)} (h : f.Pairwise (· < ·)) {l : List Int} (hl : f.getLast? = some l) : ∀ a ∈ f, a < l ∨ a = l := by
  intro a ha
  obtain ⟨g, rfl⟩ : ∃ g, f = g ++ [l] := List.getLast?_eq_some_iff.mp hl
  rcases List.mem_append.mp ha with ha | ha
  · exact .inl ((List.pairwise_append.mp h).2.2 a ha l (by simp))
  · exact .inr (by simpa using ha)
theorem foldU_strict : ∀ (xs f : List (List Int)), f.Pairwise (· < ·) → xs.Pairwise (· ≤ ·) → (∀ a ∈ f, ∀ y ∈ xs, a ≤ y) → (xs.foldl stepU f).Pairwise (· < ·)
  | [], f, h, _, _ => h
  | x :: xs, f, h, hx, hf => by
    show (xs.foldl stepU (stepU f x)).Pairwise _
    obtain ⟨hx1, hx2⟩ := List.pairwise_cons.mp hx
    unfold stepU
    split
    · exact foldU_strict xs f h hx2 fun a ha y hy => hf a ha y (List.mem_cons_of_mem _ hy)
    · rename_i hne
      refine foldU_strict xs _ (List.pairwise_append.mpr ⟨h, List.pairwise_singleton _ _, fun a ha y hy => ?_⟩) hx2 fun a ha y hy => ?_
      · have : y = x := by simpa using hy
        subst this
        rcases lel_of (hf a ha y List.mem_cons_self) with c | c
        · exact c
        · subst c
          cases hl : f.getLast? with
          | none =>
            have : f = [] := List.getLast?_eq_none_iff.mp hl
            rw [this] at ha
            cases ha
          | some l =>
            have hlm : l ∈ f := by
              obtain ⟨g, e⟩ := List.getLast?_eq_some_iff.mp hl
              rw [e]; simp
            rcases getLast_le h hl a ha with c | c
            · exact absurd (hf l hlm a List.mem_cons_self) (fun z => (List.not_le.mpr c) z)
            · exact absurd (by rw [hl, c]) hne
      · rcases List.mem_append.mp ha with ha | ha
        · exact hf a ha y (List.mem_cons_of_mem _ hy)
        · have : a = x := by simpa using ha
          subst this
          exact hx1 y hy
theorem foldU_id : ∀ (xs f : List (List Int)), (f ++ xs).Pairwise (· < ·) → xs.foldl stepU f = f ++ xs
  | [], f, _ => by simp
  | x :: xs, f, h => by
    show xs.foldl stepU (stepU f x) = _
    have hs : stepU f x = f ++ [x] := by
      unfold stepU
      rw [if_neg]
      intro hl
      obtain ⟨g, e⟩ := List.getLast?_eq_some_iff.mp hl
      have := (List.pairwise_append.mp h).2.2 x (by rw [e]; simp) x List.mem_cons_self
      exact ltl_irrefl x this
    rw [hs, foldU_id xs (f ++ [x]) (by rw [List.append_assoc]; exact h), List.append_assoc]
    rfl
theorem uniq_iff (L : List (List Int)) : uniqL L = L ↔ L.Pairwise (· < ·) := by
  constructor
  · intro h
    rw [← h]
    exact foldU_strict _ _ .nil (srtL_le L) fun a ha => by cases ha
  · intro h
    have e : srtL L = L := List.mergeSort_of_pairwise (h.imp fun {a b} c => by
      simp only [decide_eq_true_eq]
      exact List.le_of_lt c)
    unfold uniqL
    rw [e]
    exact foldU_id L [] h
/-- ascending -/
def ascL (L : List (List Int)) : Bool := (L.zip (L.drop 1)).all fun p => HT.lexLt p.1 p.2
theorem ascL_iff : ∀ L : List (List Int), ascL L = true ↔ L.Pairwise (· < ·)
  | [] => ⟨fun _ => .nil, fun _ => rfl⟩
  | [a] => ⟨fun _ => List.pairwise_singleton _ _, fun _ => rfl⟩
  | a :: b :: L => by
    have e : ascL (a :: b :: L) = (HT.lexLt a b && ascL (b :: L)) := rfl
    rw [e, Bool.and_eq_true, lexLt_lt, decide_eq_true_eq, ascL_iff (b :: L)]
    constructor
    · rintro ⟨h1, h2⟩
      refine List.pairwise_cons.mpr ⟨fun c hc => ?_, h2⟩
      rcases List.mem_cons.mp hc with rfl | hc
      · exact h1
      · exact ltl_trans h1 ((List.pairwise_cons.mp h2).1 c hc)
    · intro h
      exact ⟨(List.pairwise_cons.mp h).1 b List.mem_cons_self, (List.pairwise_cons.mp h).2⟩
end DD
set_option Elab.async false
set_option linter.all false
set_option maxRecDepth 100000
set_option maxHeartbeats 4000000
/-! P30: is_trap of any object, by the program. -/
namespace DD
open PySem
variable {Γ : FEnv} {σ : SD}
theorem ev_slLoG {a b : SemE} {T T' : List Nat} {xs : List PyData} {k : Nat} (h : Ev Γ a σ (.list xs) T) (hb : Ev Γ b σ (.int k) T') (hk : k ≤ xs.length) : Ev Γ (eSl a (oSome b) oNone) σ (.list (xs.drop k)) T := by
  obtain ⟨x, h1, h2, h3⟩ := h
  obtain ⟨y, g1, g2, _⟩ := hb
  refine ⟨fin (.list (xs.drop k)) x.t (subF x (.list (xs.drop k))), ?_, fin_v _ _ _, fun t ht => h3 t (fin_t _ _ _ t ht)⟩
  unfold eSl oNone oSome
  rw [h1, bind_ret, g1, bind_ret, g2]
  dsimp only
  rw [bind_ret, bind_ret]
  unfold slK
  rw [h2]
  dsimp only
  rw [cutN _ hk]
theorem ei_zipL {a b : SemE} {T T' : List Nat} {xs ys : List PyData} (h : Ev Γ a σ (.list xs) T) (h' : Ev Γ b σ (.list ys) T') : EvI Γ (iZip a b) σ ((xs.zip ys).map pairD) (T ++ T') := by
  obtain ⟨x, h1, h2, h3⟩ := h
  obtain ⟨y, g1, g2, g3⟩ := h'
  refine ⟨x.t ++ y.t, ?_, fun t ht => ?_⟩
  · unfold iZip
    rw [h1, bind_ret, g1, bind_ret, h2, g2]
  · rcases List.mem_append.mp ht with z | z
    · exact List.mem_append_left _ (h3 t z)
    · exact List.mem_append_right _ (g3 t z)
theorem wholes_iL : ∀ ns : List Int, wholes (iL ns) = some ns
  | [] => rfl
  | n :: ns => by
    show (wholes (iL ns)).map (n :: ·) = _
    rw [wholes_iL ns]
    rfl
theorem oLt_tI (a b : List Int) : oLt (tI a) (tI b) = some (.bool (HT.lexLt a b)) := by
  unfold oLt tI
  dsimp only
  rw [wholes_iL, wholes_iL]
theorem all_map_bool {α : Type} (q : α → Bool) (xs : List α) : oAll (.list (xs.map fun x => .bool (q x))) = some (.bool (xs.all q)) := by
  unfold oAll
  dsimp only
  rw [bools_map]
  show some (PyData.bool ((xs.map q).all id)) = _
  rw [List.all_map]
  rfl
theorem sp_asc_states (L : List (List Int)) (hl : L.length ≤ 16777216) : ∃ f, callS S_is_ascending 1 3 Γ [.dat (.list (L.map tI))] = .ret (.dat (.bool (ascL L)), f) := by
  have w : Wp 0 (callS S_is_ascending 1 3 Γ [.dat (.list (L.map tI))]) fun z => ∃ e f, z = (.dat e, f) ∧ e = .bool (ascL L) := by
    refine Wp.callRT rfl ?_
    have s0 : St (startN 3 [.dat (.list (L.map tI))]) [some (.dat (.list (L.map tI))), none, none] [] := st_start rfl
    have v0 := s0.v.ev (Γ := Γ) (i := 0) (d := .list (L.map tI)) rfl
    cases L with
    | nil =>
      exact (q_ret (T := []) (Ev.dr (d := .bool true) (ev_rP (by kernel_rfl)) rfl))
    | cons a L =>
      have hz := ei_zipL v0 (ev_slLoG v0 (ev_c (.int 1)) (k := 1) (by simp))
      rw [← List.map_drop, List.zip_map, List.map_map] at hz
      have lc := ev_lcM (Γ := Γ) (own := [1, 2]) (g := gTup [gSlot 1, gSlot 2]) (e := eOp oLt (eVar 1) (eVar 2)) (items := (a :: L).zip ((a :: L).drop 1)) (p := pairD ∘ Prod.map tI tI) (V := fun p => .bool (HT.lexLt p.1 p.2)) (T' := []) s0.v hz (by rw [List.length_zip]; simp at hl ⊢; omega) fun p _ σ0 h0 => by
        obtain ⟨σ1, g1, g2⟩ := h0.slot2 1 2 (tI p.1) (tI p.2)
        exact ⟨σ1, g1, ev_op (g2.ev rfl) (g2.ev rfl) (oLt_tI _ _)⟩
      exact q_ret ((ev_un (op := oAll) lc (all_map_bool (fun p : List Int × List Int => HT.lexLt p.1 p.2) _)).dr rfl)
  obtain ⟨z, h, e, f, rfl, rfl⟩ := w.det0
  exact ⟨f, h⟩
/-! in -/
theorem plain_tIs (L : List (List Int)) : PyData.plainAll (L.map tI) = true := plainAll_map plain_tI L
theorem any_tI (s : List Int) : ∀ L : List (List Int), ((L.map tI).any fun y => PyData.eqv y (tI s)) = decide (s ∈ L)
  | [] => by simp
  | a :: L => by
    show (PyData.eqv (tI a) (tI s) || (L.map tI).any fun y => PyData.eqv y (tI s)) = _
    rw [any_tI s L, eqv_tI]
    by_cases h : a = s
    · subst h; simp
    · have h' : ¬ s = a := fun e => h e.symm
      by_cases h2 : s ∈ L <;> simp [h, h', h2]
theorem inOk_tI (s : List Int) (L : List (List Int)) : inOk (tI s) (L.map tI) = true := by
  unfold inOk
  rw [plain_tI, plain_tIs, decide_eq_true (Nat.le_trans (depth_tI s) (by decide))]
  rfl
theorem oIn_tI (s : List Int) (L : List (List Int)) : oIn (tI s) (.list (L.map tI)) = some (.bool (decide (s ∈ L))) := by
  unfold oIn
  dsimp only
  rw [if_pos (inOk_tI s L), any_tI]
theorem oNotIn_tI (s : List Int) (L : List (List Int)) : oNotIn (tI s) (.list (L.map tI)) = some (.bool (!decide (s ∈ L))) := by
  unfold oNotIn
  dsimp only
  rw [if_pos (inOk_tI s L), any_tI]
/-- any objects as states -/
def readL (m : Nat) : List PyData → Option (List (List Int))
  | [] => some []
  | x :: xs => match stOf m x, readL m xs with
    | some s, some L => some (s :: L)
    | _, _ => none
theorem plain_optI (o : Option (List Int)) : PyData.plain (optI o) = true := by
  cases o with
  | none => rfl
  | some s => exact plain_tI s
theorem readL_some {m : Nat} : ∀ {xs : List PyData} {L : List (List Int)}, readL m xs = some L → (xs.map fun x => optI (stOf m x)) = L.map tI ∧ L.length = xs.length ∧ ∀ s ∈ L, s.length = m ∧ Bits s
  | [], _, h => by cases h; exact ⟨rfl, rfl, fun _ z => by cases z⟩
  | x :: xs, L, h => by
    have e : readL m (x :: xs) = match stOf m x, readL m xs with
      | some s, some L => some (s :: L)
      | _, _ => none := rfl
    rw [e] at h
    cases hx : stOf m x with
    | none => rw [hx] at h; cases h
    | some s =>
      cases hr : readL m xs with
      | none => rw [hx, hr] at h; cases h
      | some L' =>
        rw [hx, hr] at h
        cases h
        obtain ⟨h1, h2, h3⟩ := readL_some hr
        refine ⟨by rw [List.map_cons, hx, h1]; rfl, by simp [h2], fun t ht => ?_⟩
        rcases List.mem_cons.mp ht with rfl | ht
        · have : ∃ ys, stOf m x = (if ys.length = m then bitsD ys else none) := by
            cases x with
            | list ys => exact ⟨ys, rfl⟩
            | tuple ys => exact ⟨ys, rfl⟩
            | _ => cases hx
          obtain ⟨ys, hy⟩ := this
          rw [hx] at hy
          split at hy
          · rename_i hm
            obtain ⟨e1, e2⟩ := bitsD_some hy.symm
            exact ⟨by rw [← hm, e1, List.length_map], e2⟩
          · cases hy
        · exact h3 t ht
theorem readL_none {m : Nat} : ∀ {xs : List PyData}, (readL m xs).isNone = (xs.map fun x => optI (stOf m x)).any fun y => PyData.eqv y .none
  | [] => rfl
  | x :: xs => by
    have e : readL m (x :: xs) = match stOf m x, readL m xs with
      | some s, some L => some (s :: L)
      | _, _ => none := rfl
    rw [e, List.map_cons, List.any_cons, ← readL_none (xs := xs)]
    cases stOf m x with
    | none => cases readL m xs <;> rfl
    | some s =>
      have : PyData.eqv (optI (some s)) .none = false := rfl
      rw [this]
      cases readL m xs <;> rfl
theorem oIn_none {m : Nat} {xs : List PyData} : oIn .none (.list (xs.map fun x => optI (stOf m x))) = some (.bool (readL m xs).isNone) := by
  unfold oIn
  dsimp only
  have ok : inOk .none (xs.map fun x => optI (stOf m x)) = true := by
    unfold inOk
    rw [plainAll_map (fun x => plain_optI _)]
    rfl
  rw [if_pos ok, readL_none]
/-- a closed lot with s, without g -/
def trapB (nt : NetT) (s g : List Int) (L : List (List Int)) : Bool := ascL L && (decide (s ∈ L) && (!decide (g ∈ L) && L.all fun one => (restN nt one).all fun k => decide (flipN one k ∈ L)))
def trapX (nt : NetT) (s g : List Int) (xs : List PyData) : Bool := match readL nt.length xs with
  | some L => trapB nt s g L
  | none => false
def isTrapD (nt : NetT) (s g : List Int) : PyData → Bool
  | .list xs => trapX nt s g xs
  | .tuple xs => trapX nt s g xs
  | _ => false
def goN (nt : NetT) (s : List Int) : List PyData := (restN nt s).map fun k => .tuple [.int k, tI (flipN s k)]
theorem restN_len (nt : NetT) (s : List Int) : (restN nt s).length ≤ nt.length := by
  unfold restN
  rw [List.length_map]
  refine Nat.le_trans (List.length_filter_le _ _) ?_
  rw [List.length_zipIdx]
  exact Nat.le_of_eq (List.length_map ..)
theorem sp_goes_by {iR iF : Nat} {nt : NetT} {s : List Int} (hl : nt.length ≤ 1000) (hR : ∃ f, Γ iR [.dat (keptN nt), .dat (tI s)] = .ret (.dat (lI (restN nt s)), f)) (hF : ∀ k : Int, 0 ≤ k → k < nt.length → ∃ f, Γ iF [.dat (tI s), .dat (.int k)] = .ret (.dat (tI (flipN s k)), f)) :
    ∃ f, callS (S_goes_by iR iF) 2 3 Γ [.dat (keptN nt), .dat (tI s)] = .ret (.dat (.list (goN nt s)), f) := by
  obtain ⟨fR, hR⟩ := hR
  have w : Wp 0 (callS (S_goes_by iR iF) 2 3 Γ [.dat (keptN nt), .dat (tI s)]) fun z => ∃ e f, z = (.dat e, f) ∧ e = .list (goN nt s) := by
    refine Wp.callRT rfl ?_
    have s0 : St (startN 3 [.dat (keptN nt), .dat (tI s)]) [some (.dat (keptN nt)), some (.dat (tI s)), none] [] := st_start rfl
    have rl := restN_len nt s
    have lc := ev_lcM (Γ := Γ) (own := [2]) (g := gSlot 2) (e := eTup (aCons (eVar 2) (aCons (eCall iF (aCons (eVar 1) (aCons (eVar 2) aNil))) aNil))) (items := restN nt s) (p := PyData.int) (V := fun k => .tuple [.int k, tI (flipN s k)]) (T' := [2, 1, 2]) s0.v (ei_val (ev_call (eva_cons (s0.v.ev (i := 0) rfl) (eva_cons (s0.v.ev (i := 1) rfl) eva_nil)) hR) (.inl rfl)) (by omega) fun k hk σ0 h0 => by
      obtain ⟨σ1, g1, g2⟩ := h0.slot 2 (.int k)
      obtain ⟨k0, k1⟩ := restN_mem hk
      obtain ⟨fF, hF⟩ := hF k k0 k1
      exact ⟨σ1, g1, ev_tup (ds := [.int k, tI (flipN s k)]) (eva_cons (g2.ev rfl) (eva_cons (ev_call (eva_cons (g2.ev rfl) (eva_cons (g2.ev rfl) eva_nil)) hF) eva_nil)) (show 2 ≤ 16777216 by decide)⟩
    exact q_ret (lc.dr rfl)
  obtain ⟨z, h, e, f, rfl, rfl⟩ := w.det0
  exact ⟨f, h⟩
theorem tOr4 {a b c d : SemT} {x y z u : Bool} (ha : a Γ σ = .ret x) (hb : x = false → b Γ σ = .ret y) (hc : x = false → c Γ σ = .ret z) (hd : x = false → d Γ σ = .ret u) : tOr a (tOr b (tOr c d)) Γ σ = .ret (x || (y || (z || u))) := by
  cases x with
  | true => unfold tOr; rw [ha, bind_ret, if_pos rfl]; rfl
  | false => exact tOr_of ha (tOr_of (hb rfl) (tOr_of (hc rfl) (hd rfl)))
theorem sp_is_trap {iN iS iG iL' iK iA iO : Nat} {d sd gd x : PyData} {nt : NetT} {s g : List Int} (h5 : nt.length ≤ 20) (hxl : ∀ xs, Sq x xs → xs.length ≤ 16777216) (hN : ∃ f, Γ iN [.dat d] = .ret (.dat (keptN nt), f)) (hS : ∃ f, Γ iS [.dat (keptN nt), .dat sd] = .ret (.dat (tI s), f)) (hG : ∃ f, Γ iG [.dat (keptN nt), .dat gd] = .ret (.dat (tI g), f))
    (hL : ∀ d, Γ iL' [.dat d] = .ret (.dat (.bool (isL d)), .all)) (hK : ∀ d, ∃ f, Γ iK [.dat (keptN nt), .dat d] = .ret (.dat (optI (stOf nt.length d)), f)) (hA : ∀ L : List (List Int), L.length ≤ 16777216 → ∃ f, Γ iA [.dat (.list (L.map tI))] = .ret (.dat (.bool (ascL L)), f))
    (hO : ∀ s, s.length = nt.length → Bits s → ∃ f, Γ iO [.dat (keptN nt), .dat (tI s)] = .ret (.dat (.list (goN nt s)), f)) :
    ∃ f, callS (S_is_trap iN iS iG iL' iK iA iO) 4 11 Γ [.dat d, .dat sd, .dat gd, .dat x] = .ret (.dat (.bool (isTrapD nt s g x)), f) := by
  obtain ⟨fN, hN⟩ := hN
  obtain ⟨fS, hS⟩ := hS
  obtain ⟨fG, hG⟩ := hG
  have w : Wp 0 (callS (S_is_trap iN iS iG iL' iK iA iO) 4 11 Γ [.dat d, .dat sd, .dat gd, .dat x]) fun z => ∃ e f, z = (.dat e, f) ∧ e = .bool (isTrapD nt s g x) := by
    refine Wp.callRT rfl ?_
    have s0 : St (startN 11 [.dat d, .dat sd, .dat gd, .dat x]) [some (.dat d), some (.dat sd), some (.dat gd), some (.dat x), none, none, none, none, none, none, none] [] := st_start rfl
    refine q_set0 (i := 4) s0 (ev_call (eva_cons (s0.v.ev (i := 0) rfl) eva_nil) hN) rfl fun σ4 s4 => ?_
    refine q_set0 (i := 5) s4 (ev_call (eva_cons (s4.v.ev (i := 4) rfl) (eva_cons (s4.v.ev (i := 1) rfl) eva_nil)) hS) rfl fun σ5 s5 => ?_
    refine q_set0 (i := 6) s5 (ev_call (eva_cons (s5.v.ev (i := 4) rfl) (eva_cons (s5.v.ev (i := 2) rfl) eva_nil)) hG) rfl fun σ6 s6 => ?_
    have tl := tNot_of (ev_tval (ev_call (eva_cons (s6.v.ev (Γ := Γ) (i := 3) (d := x) rfl) eva_nil) (hL x)))
    cases hx : isL x with
    | false =>
      have e : isTrapD nt s g x = false := by cases x <;> first | rfl | cases hx
      rw [e]
      rw [hx] at tl
      exact q_ifret tl (q_ret ((ev_c _).dr rfl))
    | true =>
      rw [hx] at tl
      refine q_iff tl ?_
      obtain ⟨xs, hsq, e⟩ : ∃ xs, Sq x xs ∧ isTrapD nt s g x = trapX nt s g xs := by
        cases x with
        | list xs => exact ⟨xs, .inl rfl, rfl⟩
        | tuple xs => exact ⟨xs, .inr rfl, rfl⟩
        | _ => cases hx
      rw [e]
      have lc := ev_lc1 (Γ := Γ) (own := [8]) (g := gSlot 8) (e := eCall iK (aCons (eVar 4) (aCons (eVar 8) aNil))) (f := fun x => optI (stOf nt.length x)) (T' := [4, 8]) s6.v (ei_val (s6.v.ev (i := 3) rfl) hsq) (hxl xs hsq) fun y _ σ0 h0 => by
        obtain ⟨σ1, g1, g2⟩ := h0.slot 8 y
        obtain ⟨fK, hK⟩ := hK y
        exact ⟨σ1, g1, ev_call (eva_cons (g2.ev rfl) (eva_cons (g2.ev rfl) eva_nil)) hK⟩
      refine q_set0 (i := 7) s6 lc rfl fun σ7 s7 => ?_
      have t0 := ev_tval (ev_op (Γ := Γ) (ev_c .none) (s7.v.ev (i := 7) rfl) (oIn_none (m := nt.length) (xs := xs)))
      cases hr : readL nt.length xs with
      | none =>
        have e2 : trapX nt s g xs = false := by unfold trapX; rw [hr]
        rw [e2]
        rw [hr] at t0
        refine q_ifret (t := tOr _ _) ?_ (q_ret ((ev_c _).dr rfl))
        unfold tOr
        rw [t0, bind_ret]
        rfl
      | some L =>
        have e2 : trapX nt s g xs = trapB nt s g L := by unfold trapX; rw [hr]
        rw [e2]
        rw [hr] at t0
        obtain ⟨q1, q2, q3⟩ := readL_some hr
        rw [q1] at s7
        have hLl : L.length ≤ 16777216 := by rw [q2]; exact hxl xs hsq
        obtain ⟨fA, hA⟩ := hA L hLl
        have t1 := tNot_of (ev_tval (ev_call (eva_cons (s7.v.ev (Γ := Γ) (i := 7) rfl) eva_nil) hA))
        have t2 := ev_tval (ev_op (Γ := Γ) (s7.v.ev (i := 5) rfl) (s7.v.ev (i := 7) rfl) (oNotIn_tI s L))
        have t3 := ev_tval (ev_op (Γ := Γ) (s7.v.ev (i := 6) rfl) (s7.v.ev (i := 7) rfl) (oIn_tI g L))
        have tt := tOr_of t0 (tOr_of t1 (tOr_of t2 t3))
        cases hc : (!ascL L || (!decide (s ∈ L) || decide (g ∈ L))) with
        | true =>
          have e3 : trapB nt s g L = false := by
            unfold trapB
            revert hc
            cases ascL L <;> cases decide (s ∈ L) <;> cases decide (g ∈ L) <;> simp
          rw [e3]
          refine q_ifret (tt.trans ?_) (q_ret ((ev_c _).dr rfl))
          rw [hc]
          rfl
        | false =>
          have e3 : trapB nt s g L = L.all fun one => (restN nt one).all fun k => decide (flipN one k ∈ L) := by
            unfold trapB
            revert hc
            cases ascL L <;> cases decide (s ∈ L) <;> cases decide (g ∈ L) <;> simp
          rw [e3]
          refine q_iff (tt.trans (by rw [hc]; rfl)) ?_
          have lc2 := ev_lcM (Γ := Γ) (own := [8]) (g := gSlot 8) (e := eAll (eLc [9, 10] (iVal (eCall iO (aCons (eVar 4) (aCons (eVar 8) aNil)))) (gTup [(gSlot 9), (gSlot 10)]) tYesD (eOp oIn (eVar 10) (eVar 7)))) (items := L) (p := tI) (V := fun one => .bool ((restN nt one).all fun k => decide (flipN one k ∈ L))) (T' := []) s7.v (ei_val (s7.v.ev (i := 7) rfl) (.inl rfl)) hLl fun one ho σ0 h0 => by
            obtain ⟨σ1, g1, g2⟩ := h0.slot 8 (tI one)
            obtain ⟨m1, m2⟩ := q3 one ho
            obtain ⟨fO, hO⟩ := hO one m1 m2
            refine ⟨σ1, g1, ?_⟩
            have rl := restN_len nt one
            have lc3 := ev_lcM (Γ := Γ) (own := [9, 10]) (g := gTup [(gSlot 9), (gSlot 10)]) (e := eOp oIn (eVar 10) (eVar 7)) (items := restN nt one) (p := fun k => .tuple [.int k, tI (flipN one k)]) (V := fun k => .bool (decide (flipN one k ∈ L))) (T' := []) g2 (ei_val (ev_call (eva_cons (g2.ev (i := 4) (d := keptN nt) rfl) (eva_cons (g2.ev (i := 8) (d := tI one) rfl) eva_nil)) hO) (.inl rfl)) (by omega) fun k hk σ0 h0 => by
              obtain ⟨σ2, f1, f2⟩ := h0.slot2 9 10 (.int k) (tI (flipN one k))
              exact ⟨σ2, f1, ev_op (f2.ev (i := 10) (d := tI (flipN one k)) rfl) (f2.ev (i := 7) (d := .list (L.map tI)) rfl) (oIn_tI _ _)⟩
            exact ev_un (op := oAll) lc3 (all_map_bool (fun k => decide (flipN one k ∈ L)) _)
          exact q_ret ((ev_un (op := oAll) lc2 (all_map_bool (fun one => (restN nt one).all fun k => decide (flipN one k ∈ L)) _)).dr rfl)
  obtain ⟨z, h, e, f, rfl, rfl⟩ := w.det0
  exact ⟨f, h⟩
end DD
set_option Elab.async false
set_option linter.all false
set_option maxRecDepth 100000
set_option maxHeartbeats 4000000
/-! P31: is_trap of any object, by a law; lists of states each once. -/
namespace DD
open PySem
variable {Γ : FEnv} {σ : SD}
theorem alikeAll_iL : ∀ a b : List Int, PySem.W.alikeAll (iL a) (iL b) = true := by
  intro a
  induction a with
  | nil => intro b; cases b <;> simp [PySem.W.alikeAll]
  | cons x xs ih =>
    intro b
    cases b with
    | nil => simp [PySem.W.alikeAll]
    | cons y ys =>
      show PySem.W.alikeAll (.int x :: iL xs) (.int y :: iL ys) = true
      simp [PySem.W.alikeAll, PySem.W.alike, ih ys]
theorem plain_lIs (L : List (List Int)) : PyData.plainAll (L.map lI) = true := plainAll_map plain_lI L
theorem sortOk_lI (L : List (List Int)) : sortOk (L.map lI) = true := by
  unfold sortOk
  have h2 : ((L.map lI).all fun d => (L.map lI).all fun e => PySem.W.alike d e) = true := by
    refine List.all_eq_true.mpr fun d hd => List.all_eq_true.mpr fun e he => ?_
    obtain ⟨a, _, rfl⟩ := List.mem_map.mp hd
    obtain ⟨b, _, rfl⟩ := List.mem_map.mp he
    have := alikeAll_iL a b
    simpa [lI, PySem.W.alike] using this
  have h3 : (L.map lI).all othN = true := by
    refine List.all_eq_true.mpr fun d hd => ?_
    obtain ⟨a, _, rfl⟩ := List.mem_map.mp hd
    rfl
  have h4 : ((L.map lI).all fun d => decide (d.depth ≤ 150)) = true := by
    refine List.all_eq_true.mpr fun d hd => ?_
    obtain ⟨a, _, rfl⟩ := List.mem_map.mp hd
    exact decide_eq_true (Nat.le_trans (depth_lI a) (by decide))
  rw [plain_lIs, h2, h3, h4]
  simp
theorem ev_sortedL {a : SemE} {T : List Nat} {L : List (List Int)} (h : Ev Γ a σ (.list (L.map lI)) T) (hl : L.length ≤ 16777216) : Ev Γ (eSorted2 a) σ (.list ((srtL L).map lI)) T :=
  ev_mon h fun x hx tx => ⟨fin (.list ((srtL L).map lI)) x.t (subF x (.list (L.map lI))), by
    have e : sortedK2 x = sortedK x := by unfold sortedK2; rw [hx]
    rw [e]
    unfold sortedK
    rw [hx]
    dsimp only
    rw [sortOk_lI, if_pos (by simp [hl]), sortD_lI], fin_v _ _ _, fun t ht => tx t (fin_t _ _ _ t ht)⟩
theorem eqvAll_lI : ∀ A B : List (List Int), PyData.eqvAll (A.map lI) (B.map lI) = decide (A = B)
  | [], [] => by simp [PyData.eqvAll]
  | [], _ :: _ => by simp [PyData.eqvAll]
  | _ :: _, [] => by simp [PyData.eqvAll]
  | x :: xs, y :: ys => by
    show PyData.eqvAll (lI x :: xs.map lI) (lI y :: ys.map lI) = _
    rw [PyData.eqvAll, eqvAll_lI xs ys, eqv_lI]
    by_cases h : x = y <;> by_cases h2 : xs = ys <;> simp [h, h2]
theorem depthAll_lI : ∀ L : List (List Int), PyData.depthAll (L.map lI) ≤ 1
  | [] => Nat.zero_le _
  | x :: xs => by
    show PyData.depthAll (lI x :: xs.map lI) ≤ 1
    rw [PyData.depthAll]
    exact Nat.max_le.mpr ⟨depth_lI x, depthAll_lI xs⟩
theorem depth_lL (L : List (List Int)) : PyData.depth (.list (L.map lI)) ≤ 2 := by
  rw [PyData.depth]
  have := depthAll_lI L
  omega
theorem oNe_lL (A B : List (List Int)) : oNe (.list (A.map lI)) (.list (B.map lI)) = some (.bool (!decide (A = B))) := by
  unfold oNe eqOk
  have h1 : min (PyData.list (A.map lI)).depth (PyData.list (B.map lI)).depth ≤ 150 := Nat.le_trans (Nat.min_le_left _ _) (Nat.le_trans (depth_lL A) (by decide))
  have p1 : PyData.plain (.list (A.map lI)) = true := plain_lIs A
  have p2 : PyData.plain (.list (B.map lI)) = true := plain_lIs B
  have e : PyData.eqv (.list (A.map lI)) (.list (B.map lI)) = decide (A = B) := eqvAll_lI A B
  rw [p1, p2, e]
  simp [h1]
theorem oEq_lL (A B : List (List Int)) : oEq (.list (A.map lI)) (.list (B.map lI)) = some (.bool (decide (A = B))) := by
  unfold oEq eqOk
  have h1 : min (PyData.list (A.map lI)).depth (PyData.list (B.map lI)).depth ≤ 150 := Nat.le_trans (Nat.min_le_left _ _) (Nat.le_trans (depth_lL A) (by decide))
  have p1 : PyData.plain (.list (A.map lI)) = true := plain_lIs A
  have p2 : PyData.plain (.list (B.map lI)) = true := plain_lIs B
  have e : PyData.eqv (.list (A.map lI)) (.list (B.map lI)) = decide (A = B) := eqvAll_lI A B
  rw [p1, p2, e]
  simp [h1]
theorem oNe_lI (a b : List Int) : oNe (lI a) (lI b) = some (.bool (!decide (a = b))) := by
  unfold oNe eqOk
  have h1 : min (lI a).depth (lI b).depth ≤ 150 := Nat.le_trans (Nat.min_le_left _ _) (Nat.le_trans (depth_lI a) (by decide))
  rw [plain_lI, plain_lI, eqv_lI]
  simp [h1]
theorem any_lI (s : List Int) : ∀ L : List (List Int), ((L.map lI).any fun y => PyData.eqv y (lI s)) = decide (s ∈ L)
  | [] => by simp
  | a :: L => by
    show (PyData.eqv (lI a) (lI s) || (L.map lI).any fun y => PyData.eqv y (lI s)) = _
    rw [any_lI s L, eqv_lI]
    by_cases h : a = s
    · subst h; simp
    · have h' : ¬ s = a := fun e => h e.symm
      by_cases h2 : s ∈ L <;> simp [h, h', h2]
theorem inOk_lI (s : List Int) (L : List (List Int)) : inOk (lI s) (L.map lI) = true := by
  unfold inOk
  rw [plain_lI, plain_lIs, decide_eq_true (Nat.le_trans (depth_lI s) (by decide))]
  rfl
theorem oIn_lI (s : List Int) (L : List (List Int)) : oIn (lI s) (.list (L.map lI)) = some (.bool (decide (s ∈ L))) := by
  unfold oIn
  dsimp only
  rw [if_pos (inOk_lI s L), any_lI]
theorem oNotIn_lI (s : List Int) (L : List (List Int)) : oNotIn (lI s) (.list (L.map lI)) = some (.bool (!decide (s ∈ L))) := by
  unfold oNotIn
  dsimp only
  rw [if_pos (inOk_lI s L), any_lI]
/-- a[-1] -/
theorem ev_last {a b : SemE} {T T' : List Nat} {xs : List PyData} {x : PyData} (h : Ev Γ a σ (.list xs) T) (h' : Ev Γ b σ (.int (-1)) T') (hx : xs.getLast? = some x) : Ev Γ (eIx a b) σ x T := by
  refine ev_bin h h' fun y z hy hz ty _ => ⟨part y x, ?_, part_v _ _, fun t ht => ty t (part_t _ _ t ht)⟩
  have hne : 0 < xs.length := by
    cases xs with
    | nil => cases hx
    | cons _ _ => simp
  have ha : atD xs (-1) = some x := by
    unfold atD ixD
    rw [if_neg (by decide), if_pos (by omega)]
    show xs[(-1 + (xs.length : Int)).toNat]? = some x
    rw [← hx, List.getLast?_eq_getElem?]
    congr 1
    omega
  unfold ixK
  rw [hy, hz]
  dsimp only
  rw [ha]
  rfl
theorem sp_unlike (L : List (List Int)) (hl : L.length ≤ 16777000) : ∃ f, callS S__law_unlike 1 3 Γ [.dat (.list (L.map lI))] = .ret (.dat (.list ((uniqL L).map lI)), f) := by
  have w : Wp 0 (callS S__law_unlike 1 3 Γ [.dat (.list (L.map lI))]) fun z => ∃ e f, z = (.dat e, f) ∧ e = .list ((uniqL L).map lI) := by
    refine Wp.callRT rfl ?_
    have s0 : St (startN 3 [.dat (.list (L.map lI))]) [some (.dat (.list (L.map lI))), none, none] [] := st_start rfl
    refine (q_setO (c1 := 0) (c2 := 0) (i := 1) (P := fun d => d = .list []) s0 (dro_rP rfl rfl) rfl (show 1 < 3 by decide) fun d σ1 hd s1 => ?_).le (Nat.le_refl _)
    subst hd
    have sl : (srtL L).length = L.length := List.length_mergeSort _
    refine (q_for (c1 := 0) (c2 := 0) (I := fun k σ => ∃ (F : List (List Int)) (o2 : Option Vl), St σ [some (.dat (.list (L.map lI))), some (.dat (.list (F.map lI))), o2] [1] ∧ F = ((srtL L).take k).foldl stepU [] ∧ F.length ≤ k) (ei_val (ev_sortedL (s1.v.ev (i := 0) rfl) (by omega)) (.inl rfl)) (fun ct hct => ⟨[], none, s1.demote hct rfl, rfl, Nat.zero_le _⟩) (fun k x σ hx hI => ?_) fun σ' hI => ?_).le (by omega)
    · obtain ⟨F, o2, st, hF, hFl⟩ := hI
      rw [List.getElem?_map] at hx
      cases hz : (srtL L)[k]? with
      | none => rw [hz] at hx; cases hx
      | some z =>
        rw [hz] at hx
        have hx : lI z = x := Option.some.inj hx
        subst hx
        have hk : k < L.length := by have := (List.getElem?_eq_some_iff.mp hz).1; omega
        obtain ⟨σ1, g1, g2⟩ := st.slot (i := 2) rfl (lI z)
        refine ⟨σ1, g1, ?_⟩
        have e1 := ev_tval (ev_op (Γ := Γ) (g2.v.ev (i := 1) (d := .list (F.map lI)) rfl) (ev_rP (d := .list (([] : List (List Int)).map lI)) rfl : Ev Γ (eLst aNil) σ1 _ []) (oEq_lL F []))
        have ev : Ev Γ (eIf (tOr (tVal (eOp oEq (eVar 1) (eLst aNil))) (tVal (eOp oNe (eIx (eVar 1) (eUn oNeg (eC (.int 1)))) (eVar 2)))) (eLst (aCons (eVar 2) aNil)) (eLst aNil)) σ1 (.list ((if F.getLast? = some z then [] else [z]).map lI)) [2] := by
          have one : Ev Γ (eLst (aCons (eVar 2) aNil)) σ1 (.list [lI z]) [2] := ev_lst (ds := [lI z]) (eva_cons (g2.v.ev (i := 2) rfl) eva_nil) (show 1 ≤ 16777216 by decide)
          have non : Ev Γ (eLst aNil) σ1 (.list []) [2] := (ev_rP rfl : Ev Γ (eLst aNil) σ1 (.list []) []).sub fun _ h => by cases h
          cases hl2 : F.getLast? with
          | none =>
            have : F = [] := List.getLast?_eq_none_iff.mp hl2
            refine ev_if (k := true) ?_ (fun _ => one) fun z => by cases z
            unfold tOr
            rw [e1, this]
            rfl
          | some l =>
            have hne : F ≠ [] := fun c => by rw [c] at hl2; cases hl2
            have hll : (F.map lI).getLast? = some (lI l) := by rw [List.getLast?_map, hl2]; rfl
            have ng : Ev Γ (eUn oNeg (eC (.int 1))) σ1 (.int (-1)) [] := ev_un (op := oNeg) (ev_c (.int 1)) rfl
            have e2 := ev_tval (ev_op (Γ := Γ) (ev_last (g2.v.ev (i := 1) (d := .list (F.map lI)) rfl) ng hll) (g2.v.ev (i := 2) (d := lI z) rfl) (oNe_lI l z))
            have tt := tOr_of e1 e2
            rw [decide_eq_false hne, Bool.false_or] at tt
            refine ev_if tt (fun hc => ?_) fun hc => ?_
            · have : l ≠ z := by simpa using hc
              rw [if_neg (by simpa using this)]
              exact one
            · have : l = z := by simpa using hc
              rw [if_pos (by rw [this])]
              exact non
        refine (q_ext (c1 := 0) (c2 := 0) (T := [2]) (P := fun d => d = .list ((if F.getLast? = some z then [] else [z]).map lI)) g2 rfl (ev.dr rfl) rfl (fun d hd => ⟨_, hd, ?_⟩) fun ys σ' hd s' => ?_).le (Nat.le_refl _)
        · rw [List.length_map, List.length_map]
          split <;> simp <;> omega
        · injection hd with hd
          subst hd
          rw [← List.map_append] at s'
          have es : F ++ (if F.getLast? = some z then [] else [z]) = stepU F z := by
            unfold stepU
            split <;> simp
          rw [es] at s'
          refine q_nil ⟨stepU F z, some (.dat (lI z)), s', ?_, ?_⟩
          · rw [List.take_succ, hz, List.foldl_append, ← hF]
            rfl
          · unfold stepU
            split
            · omega
            · simp; omega
    · obtain ⟨F, o2, st, hF, hFl⟩ := hI
      rw [List.length_map, List.take_length] at hF
      exact q_retv st.v (i := 1) rfl (by rw [hF]; rfl)
  obtain ⟨z, h, e, f, rfl, rfl⟩ := w.det0
  exact ⟨f, h⟩
end DD
set_option Elab.async false
set_option linter.all false
set_option maxRecDepth 100000
set_option maxHeartbeats 4000000
/-! P32: is_trap of any object, by a law. -/
namespace DD
open PySem
variable {Γ : FEnv} {σ : SD}
theorem stOf_sq {m : Nat} {x : PyData} {s : List Int} (h : stOf m x = some s) : Sq x (iL s) ∧ s.length = m ∧ Bits s := by
  have key : ∀ ys : List PyData, (if ys.length = m then bitsD ys else none) = some s → ys = iL s ∧ s.length = m ∧ Bits s := fun ys h => by
    split at h
    · rename_i hm
      obtain ⟨e, b⟩ := bitsD_some h
      exact ⟨e, by rw [← hm, e, List.length_map], b⟩
    · cases h
  cases x with
  | list ys => obtain ⟨e, r⟩ := key ys h; exact ⟨.inl (by rw [e]), r⟩
  | tuple ys => obtain ⟨e, r⟩ := key ys h; exact ⟨.inr (by rw [e]), r⟩
  | _ => cases h
theorem readL_all {m : Nat} : ∀ {xs : List PyData}, (∀ y ∈ xs, (stOf m y).isSome = true) → ∃ L, readL m xs = some L ∧ xs.map (fun x => (stOf m x).getD []) = L
  | [], _ => ⟨[], rfl, rfl⟩
  | x :: xs, h => by
    obtain ⟨L, h1, h2⟩ := readL_all fun y hy => h y (List.mem_cons_of_mem _ hy)
    have hx := h x List.mem_cons_self
    cases hs : stOf m x with
    | none => rw [hs] at hx; cases hx
    | some s =>
      refine ⟨s :: L, ?_, by rw [List.map_cons, hs, h2]; rfl⟩
      show (match stOf m x, readL m xs with
        | some s, some L => some (s :: L)
        | _, _ => none) = _
      rw [hs, h1]
theorem readL_bad {m : Nat} : ∀ {xs : List PyData} {y : PyData}, y ∈ xs → stOf m y = none → readL m xs = none
  | x :: xs, y, hy, h => by
    have e : readL m (x :: xs) = match stOf m x, readL m xs with
      | some s, some L => some (s :: L)
      | _, _ => none := rfl
    rw [e]
    rcases List.mem_cons.mp hy with rfl | hy
    · rw [h]
    · rw [readL_bad hy h]
      cases stOf m x <;> rfl
theorem ev_lc1x {own : List Nat} {it : SemI} {g : SemG} {e : SemE} {T T' : List Nat} {items : List PyData} {f : PyData → PyData} {vs : List (Option Vl)} (hv : Vw σ vs) (hi : EvI Γ it σ items T) (hl : items.length ≤ 16777216)
    (h : ∀ x ∈ items, ∀ σ0, Vw σ0 (own.foldr (fun v vs => vs.set v none) vs) → ∃ σ1, g x σ0 = .ret σ1 ∧ Ev Γ e σ1 (f x) T') : Ev Γ (eLc own it g tYesD e) σ (.list (items.map f)) (T' ++ T) := ev_lc1 hv hi hl h
theorem sp_law_is_trap {iU iK iR iF : Nat} {d x : PyData} {nt : NetT} {s g : List Int} {ps : List PyData} (hd : Sq d ps) (hps : ps.length = nt.length) (h5 : nt.length ≤ 20) (hxl : ∀ xs, Sq x xs → xs.length ≤ 16777000 ∧ ∀ y ∈ xs, ∀ ys, Sq y ys → ys.length ≤ 16777000)
    (hU : ∀ (x : PyData) (m : Int), ∃ f, Γ iU [.dat x, .dat (.int m)] = .ret (.dat (.bool (isBelowD m x)), f)) (hK : ∀ L : List (List Int), L.length ≤ 16777000 → ∃ f, Γ iK [.dat (.list (L.map lI))] = .ret (.dat (.list ((uniqL L).map lI)), f))
    (hR : ∀ s, s.length = nt.length → Bits s → ∃ f, Γ iR [.dat d, .dat (lI s)] = .ret (.dat (lI (restN nt s)), f)) (hF : ∀ s, s.length = nt.length → Bits s → ∀ k : Int, 0 ≤ k → k < nt.length → ∃ f, Γ iF [.dat (lI s), .dat (.int k)] = .ret (.dat (lI (flipN s k)), f)) :
    ∃ f, callS (S__law_is_trap iU iK iR iF) 4 8 Γ [.dat d, .dat (lI s), .dat (lI g), .dat x] = .ret (.dat (.bool (isTrapD nt s g x)), f) := by
  have w : Wp 0 (callS (S__law_is_trap iU iK iR iF) 4 8 Γ [.dat d, .dat (lI s), .dat (lI g), .dat x]) fun z => ∃ e f, z = (.dat e, f) ∧ e = .bool (isTrapD nt s g x) := by
    refine Wp.callRT rfl ?_
    have s0 : St (startN 8 [.dat d, .dat (lI s), .dat (lI g), .dat x]) [some (.dat d), some (.dat (lI s)), some (.dat (lI g)), some (.dat x), none, none, none, none] [] := st_start rfl
    have tl := tNot_of (ev_tval (ev_un (Γ := Γ) (op := isiO [.list, .tuple]) (r := .bool (isL x)) (s0.v.ev (i := 3) (d := x) rfl) (by cases x <;> rfl)))
    cases hx : isL x with
    | false =>
      have e : isTrapD nt s g x = false := by cases x <;> first | rfl | cases hx
      rw [e]
      rw [hx] at tl
      exact q_ifret tl (q_ret ((ev_c _).dr rfl))
    | true =>
      rw [hx] at tl
      refine q_iff tl ?_
      obtain ⟨xs, hsq, e⟩ : ∃ xs, Sq x xs ∧ isTrapD nt s g x = trapX nt s g xs := by
        cases x with
        | list xs => exact ⟨xs, .inl rfl, rfl⟩
        | tuple xs => exact ⟨xs, .inr rfl, rfl⟩
        | _ => cases hx
      rw [e]
      obtain ⟨hxl1, hxl2⟩ := hxl xs hsq
      refine (q_forR (c1 := 0) (c2 := 0) (I := fun k σ => ∃ o4 : Option Vl, Vw σ [some (.dat d), some (.dat (lI s)), some (.dat (lI g)), some (.dat x), o4, none, none, none] ∧ ∀ y ∈ xs.take k, (stOf nt.length y).isSome = true)
        (ei_val (s0.v.ev (i := 3) rfl) hsq) (fun ct _ => ⟨none, s0.v.demote ct, fun y hy => by cases hy⟩) (fun k y σ hy hI => ?_) fun σ' hI => ?_).le (by omega)
      · obtain ⟨o4, v, hk⟩ := hI
        obtain ⟨σ1, g1, g2⟩ := v.slot 4 y
        refine ⟨σ1, g1, ?_⟩
        have ym : y ∈ xs := List.mem_of_getElem? hy
        have bad : stOf nt.length y = none → Wp 0 (sSeq (sRet (eC (.bool false))) sNil Γ σ1) (RT fun d => d = .bool (trapX nt s g xs)) := fun hb => by
          have : trapX nt s g xs = false := by unfold trapX; rw [readL_bad ym hb]
          rw [this]
          exact q_ret ((ev_c _).dr rfl)
        have i1 : tNot (tVal (eIsi (eVar 4) [.list, .tuple])) Γ σ1 = .ret (!isL y) := tNot_of (ev_tval (ev_un (Γ := Γ) (op := isiO [.list, .tuple]) (r := .bool (isL y)) (g2.ev (i := 4) (d := y) rfl) (by cases y <;> rfl)))
        cases hyl : isL y with
        | false =>
          rw [hyl] at i1
          refine q_ifor (k := true) (by unfold tOr; rw [i1]; rfl) (fun _ => bad ?_) fun z => by cases z
          cases y <;> first | rfl | cases hyl
        | true =>
          rw [hyl] at i1
          obtain ⟨ys, hys⟩ : ∃ ys, Sq y ys := by
            cases y with
            | list ys => exact ⟨ys, .inl rfl⟩
            | tuple ys => exact ⟨ys, .inr rfl⟩
            | _ => cases hyl
          have hst : stOf nt.length y = if ys.length = nt.length then bitsD ys else none := by rcases hys with rfl | rfl <;> rfl
          have i2 := ev_tval (ev_op (Γ := Γ) (ev_len (g2.ev (i := 4) (d := y) rfl) hys) (ev_len (g2.ev (i := 0) (d := d) rfl) hd) (oNe_int _ _))
          have lc := ev_lc1 (Γ := Γ) (own := [6]) (g := gSlot 6) (e := eCall iU (aCons (eVar 6) (aCons (eC (.int 2)) aNil))) (f := fun x => .bool (isBelowD 2 x)) (T' := [6]) g2 (ei_val (g2.ev (i := 4) (d := y) rfl) hys) (by have := hxl2 y ym ys hys; omega) fun u _ σ0 h0 => by
            obtain ⟨σ2, f1, f2⟩ := h0.slot 6 u
            obtain ⟨fU, hU⟩ := hU u 2
            exact ⟨σ2, f1, ev_call (f := fU) (eva_cons (f2.ev rfl) (eva_cons (ev_c (.int 2)) eva_nil)) hU⟩
          have i3 := tNot_of (ev_tval (ev_un (op := oAll) lc (all_map_bool (isBelowD 2) ys)))
          have tt := tOr_of i1 (tOr_of i2 i3)
          rw [bitsD_all] at tt
          refine q_ifor tt (fun hc => bad ?_) fun hc => ?_
          · rw [hst]
            by_cases hm : ys.length = nt.length
            · rw [if_pos hm]
              have h0 : decide ((ys.length : Int) ≠ (ps.length : Int)) = false := decide_eq_false (by omega)
              rw [h0] at hc
              cases hb : bitsD ys with
              | none => rfl
              | some b => rw [hb] at hc; cases hc
            · rw [if_neg hm]
          · have hgood : (stOf nt.length y).isSome = true := by
              rw [hst]
              have hm : ys.length = nt.length := by
                by_cases hm : ys.length = nt.length
                · exact hm
                · have h0 : decide ((ys.length : Int) ≠ (ps.length : Int)) = true := decide_eq_true (by omega)
                  rw [h0] at hc
                  cases hc
              rw [if_pos hm]
              cases hb : bitsD ys with
              | none => rw [hb] at hc; simp at hc
              | some b => rfl
            refine (q_nil (Q1 := fun σ => ∃ o4 : Option Vl, Vw σ [some (.dat d), some (.dat (lI s)), some (.dat (lI g)), some (.dat x), o4, none, none, none] ∧ ∀ y ∈ xs.take (k + 1), (stOf nt.length y).isSome = true) ⟨some (.dat y), g2, fun u hu => ?_⟩).mono (Nat.le_refl _) fun o z => .inl z
            rw [List.take_succ, hy] at hu
            rcases List.mem_append.mp hu with hu | hu
            · exact hk u hu
            · have : u = y := by simpa using hu
              subst this
              exact hgood
      · obtain ⟨o4, v, hk⟩ := hI
        rw [List.take_length] at hk
        obtain ⟨L, hr, hL⟩ := readL_all hk
        obtain ⟨q1, q2, q3⟩ := readL_some hr
        have e2 : trapX nt s g xs = trapB nt s g L := by unfold trapX; rw [hr]
        rw [e2]
        have st : St σ' _ [] := ⟨v, fun _ z => by cases z⟩
        have lc := ev_lc1 (Γ := Γ) (own := [4]) (g := gSlot 4) (e := eList (eVar 4)) (f := fun y => lI ((stOf nt.length y).getD [])) (T' := [4]) v (ei_val (v.ev (i := 3) rfl) hsq) (by omega) fun y hy σ0 h0 => by
          obtain ⟨σ1, g1, g2⟩ := h0.slot 4 y
          refine ⟨σ1, g1, ?_⟩
          have := hk y hy
          cases hs : stOf nt.length y with
          | none => rw [hs] at this; cases this
          | some t => exact ev_list (g2.ev (i := 4) (d := y) rfl) (stOf_sq hs).1
        have em : xs.map (fun y => lI ((stOf nt.length y).getD [])) = L.map lI := by
          rw [← hL, List.map_map]
          rfl
        rw [em] at lc
        refine q_set0 (i := 5) st lc rfl fun σ5 s5 => ?_
        have hLl : L.length ≤ 16777000 := by rw [q2]; exact hxl1
        obtain ⟨fK, hK⟩ := hK L hLl
        have v5 := s5.v.ev (Γ := Γ) (i := 5) (d := .list (L.map lI)) rfl
        have t0 := ev_tval (ev_op (Γ := Γ) v5 (ev_call (eva_cons v5 eva_nil) hK) (oNe_lL L (uniqL L)))
        have t2 := ev_tval (ev_op (Γ := Γ) (s5.v.ev (i := 1) rfl) v5 (oNotIn_lI s L))
        have t3 := ev_tval (ev_op (Γ := Γ) (s5.v.ev (i := 2) rfl) v5 (oIn_lI g L))
        have tt := tOr_of t0 (tOr_of t2 t3)
        have ea : decide (L = uniqL L) = ascL L := by
          cases ha : ascL L with
          | true => exact decide_eq_true ((uniq_iff L).mpr ((ascL_iff L).mp ha)).symm
          | false =>
            refine decide_eq_false fun c => ?_
            have h1 := (ascL_iff L).mpr ((uniq_iff L).mp c.symm)
            rw [ha] at h1
            cases h1
        rw [ea] at tt
        cases hc : (!ascL L || (!decide (s ∈ L) || decide (g ∈ L))) with
        | true =>
          have e3 : trapB nt s g L = false := by
            unfold trapB
            revert hc
            cases ascL L <;> cases decide (s ∈ L) <;> cases decide (g ∈ L) <;> simp
          rw [e3]
          exact q_ifret (tt.trans (by rw [hc])) (q_ret ((ev_c _).dr rfl))
        | false =>
          have e3 : trapB nt s g L = L.all fun one => (restN nt one).all fun k => decide (flipN one k ∈ L) := by
            unfold trapB
            revert hc
            cases ascL L <;> cases decide (s ∈ L) <;> cases decide (g ∈ L) <;> simp
          rw [e3]
          refine q_iff (tt.trans (by rw [hc])) ?_
          have lc2 := ev_lcM (Γ := Γ) (own := [4]) (g := gSlot 4) (e := eAll (eLc [7] (iVal (eCall iR (aCons (eVar 0) (aCons (eVar 4) aNil)))) (gSlot 7) tYesD (eOp oIn (eCall iF (aCons (eVar 4) (aCons (eVar 7) aNil))) (eVar 5)))) (items := L) (p := lI) (V := fun one => .bool ((restN nt one).all fun k => decide (flipN one k ∈ L))) (T' := []) s5.v (ei_val v5 (.inl rfl)) (by omega) fun one ho σ0 h0 => by
            obtain ⟨σ1, g1, g2⟩ := h0.slot 4 (lI one)
            obtain ⟨m1, m2⟩ := q3 one ho
            obtain ⟨fR, hR⟩ := hR one m1 m2
            refine ⟨σ1, g1, ?_⟩
            have rl := restN_len nt one
            have lc3 := ev_lcM (Γ := Γ) (own := [7]) (g := gSlot 7) (e := eOp oIn (eCall iF (aCons (eVar 4) (aCons (eVar 7) aNil))) (eVar 5)) (items := restN nt one) (p := PyData.int) (V := fun k => .bool (decide (flipN one k ∈ L))) (T' := []) g2 (ei_val (ev_call (eva_cons (g2.ev (i := 0) (d := d) rfl) (eva_cons (g2.ev (i := 4) (d := lI one) rfl) eva_nil)) hR) (.inl rfl)) (by omega) fun k hk σ0 h0 => by
              obtain ⟨σ2, f1, f2⟩ := h0.slot 7 (.int k)
              obtain ⟨k0, k1⟩ := restN_mem hk
              obtain ⟨fF, hF⟩ := hF one m1 m2 k k0 k1
              exact ⟨σ2, f1, ev_op (ev_call (eva_cons (f2.ev (i := 4) (d := lI one) rfl) (eva_cons (f2.ev (i := 7) (d := .int k) rfl) eva_nil)) hF) (f2.ev (i := 5) (d := .list (L.map lI)) rfl) (oIn_lI _ _)⟩
            exact ev_un (op := oAll) lc3 (all_map_bool (fun k => decide (flipN one k ∈ L)) _)
          exact q_ret ((ev_un (op := oAll) lc2 (all_map_bool (fun one => (restN nt one).all fun k => decide (flipN one k ∈ L)) _)).dr rfl)
  obtain ⟨z, h, e, f, rfl, rfl⟩ := w.det0
  exact ⟨f, h⟩
end DD
set_option Elab.async false
set_option linter.all false
set_option maxRecDepth 100000
set_option maxHeartbeats 4000000
/-! P33: what is wholly one's own; while; reached. -/
namespace DD
open PySem
variable {Γ : FEnv} {σ : SD} {vs : List (Option Vl)}
theorem rp_var {d : PyData} {i : Nat} (h : Vw σ vs) (e : vs[i]? = some (some (.dat d))) (hp : pur d = true) : eVar i Γ σ = .ret (rP d) := by
  obtain ⟨m, hm⟩ := h.at e
  unfold eVar
  rw [hm]
  dsimp only
  rw [finV_dat, fin_pur hp]
theorem rp_op {a b : SemE} {T T' : List Nat} {d d' : PyData} {op : PyData → PyData → Option PyData} {r : PyData} (h : Ev Γ a σ d T) (h' : Ev Γ b σ d' T') (ho : op d d' = some r) : eOp op a b Γ σ = .ret (rP r) := by
  obtain ⟨x, h1, h2, h3⟩ := h
  obtain ⟨y, g1, g2, g3⟩ := h'
  unfold eOp
  rw [h1, bind_ret, g1, bind_ret, h2, g2]
  dsimp only
  rw [ho]
theorem rp_ix {a b : SemE} {T T' : List Nat} {d x : PyData} {xs : List PyData} {k : Int} (h : Ev Γ a σ d T) (hs : Sq d xs) (h' : Ev Γ b σ (.int k) T') (h0 : 0 ≤ k) (hx : xs[k.toNat]? = some x) (hp : pur x = true) : eIx a b Γ σ = .ret (rP x) := by
  obtain ⟨r, h1, h2, h3⟩ := h
  obtain ⟨y, g1, g2, g3⟩ := h'
  have hk : k.toNat < xs.length := (List.getElem?_eq_some_iff.mp hx).1
  have at_ : atD xs k = some x := by
    unfold atD ixD
    rw [if_pos h0, if_pos (by omega)]
    exact hx
  unfold eIx eBin
  rw [h1, bind_ret, g1, bind_ret]
  unfold ixK
  rw [h2, g2]
  rcases hs with rfl | rfl
  · dsimp only
    rw [at_]
    show M.ret (part r x) = _
    unfold part
    rw [fin_pur hp]
  · dsimp only
    rw [at_]
    show M.ret (part r x) = _
    unfold part
    rw [fin_pur hp]
theorem rp_call {i : Nat} {a : SemA} {us : List Vl} {T : List Nat} {d : PyData} (h : EvA Γ a σ us T) (hz : Γ i us = .ret (.dat d, .all)) : eCall i a Γ σ = .ret (rP d) := by
  obtain ⟨rs, a1, a2, a3⟩ := h
  rw [eCall_of a1 (by rw [a2]; exact hz), finV_dat, fin_all]
theorem rp_addL {a b : SemE} {T T' : List Nat} {xs ys : List PyData} (h : Ev Γ a σ (.list xs) T) (h' : Ev Γ b σ (.list ys) T') (hl : xs.length + ys.length ≤ 16777216) (hp : purL (xs ++ ys) = true) : eAdd a b Γ σ = .ret (rP (.list (xs ++ ys))) := by
  obtain ⟨x, h1, h2, h3⟩ := h
  obtain ⟨y, g1, g2, g3⟩ := h'
  unfold eAdd eBin
  rw [h1, bind_ret, g1, bind_ret]
  unfold addK
  rw [h2, g2]
  dsimp only
  have : itP (.list (xs ++ ys)) = true := hp
  rw [if_pos hl]
  unfold both
  rw [if_pos this, fin_all]
theorem rp_lc {α : Type} {own : List Nat} {it : SemI} {g : SemG} {t : SemT} {e : SemE} {items : List α} {p V : α → PyData} {q : α → Bool} {T : List Nat} (hv : Vw σ vs) (hi : EvI Γ it σ (items.map p) T) (hl : items.length ≤ 16777216)
    (h : ∀ x ∈ items, ∀ σ0, Vw σ0 (own.foldr (fun v vs => vs.set v none) vs) → ∃ σ1, g (p x) σ0 = .ret σ1 ∧ t Γ σ1 = .ret (q x) ∧ (q x = true → e Γ σ1 = .ret (rP (V x)))) :
    eLc own it g t e Γ σ = .ret (rP (.list ((items.filter q).map V))) := by
  obtain ⟨ct, hc, hct⟩ := hi
  have go : ∀ {items : List α}, (∀ x ∈ items, ∃ σ1, g (p x) (wipeD (demote ct σ) own) = .ret σ1 ∧ t Γ σ1 = .ret (q x) ∧ (q x = true → e Γ σ1 = .ret (rP (V x)))) → lcGo g t e Γ (wipeD (demote ct σ) own) (items.map p) = .ret ((items.filter q).map fun x => rP (V x)) := by
    intro items
    induction items with
    | nil => exact fun _ => rfl
    | cons x xs ih =>
      intro h
      obtain ⟨σ1, h1, h2, h3⟩ := h x List.mem_cons_self
      have i1 := ih fun y hy => h y (List.mem_cons_of_mem _ hy)
      rw [List.map_cons]
      unfold lcGo
      rw [h1, bind_ret, h2, bind_ret]
      cases hp : q x with
      | true =>
        rw [if_pos rfl, h3 hp, bind_ret, i1, bind_ret, List.filter_cons_of_pos hp]
        rfl
      | false =>
        rw [if_neg (by simp), i1, List.filter_cons_of_neg (by simp [hp])]
  have i1 := go fun x hx => h x hx _ ((hv.demote ct).wipe own)
  have hd : ∀ l : List α, datas (l.map fun x => rP (V x)) = some (l.map V) := fun l => by
    induction l with
    | nil => rfl
    | cons a l ih =>
      show (match (Vl.dat (V a)) with | .dat d => (datas (l.map fun x => rP (V x))).map (d :: ·) | _ => none) = _
      rw [ih]
      rfl
  have hf : ∀ l : List α, allF (l.map fun x => rP (V x)) = true := fun l => by
    induction l with
    | nil => rfl
    | cons a l ih =>
      unfold allF at ih ⊢
      rw [List.map_cons, List.all_cons, ih]
      rfl
  unfold eLc
  rw [hc, bind_ret]
  dsimp only
  rw [i1]
  show lcEnd ct _ = _
  unfold lcEnd
  rw [hd]
  dsimp only
  rw [if_pos (by rw [List.length_map]; exact Nat.le_trans (List.length_filter_le _ _) hl)]
  unfold dispF
  rw [if_pos (hf _), fin_all]
theorem callS_ret {S : SemE} {b : SemS} {np nl : Nat} {xs : List Vl} {d : PyData} (hl : xs.length = np) (h : S Γ (startN nl xs) = .ret (rP d)) : callS (sSeq (sRet S) b) np nl Γ xs = .ret (.dat d, .all) := by
  unfold callS
  rw [if_pos hl]
  unfold sSeq sRet
  rw [h]
  rfl
/-- turned, all one's own -/
theorem own_flipped {s : List Int} {k : Int} (hl : s.length ≤ 1000) (h0 : 0 ≤ k) (hk : k < s.length) : callS S__law_e_flipped 2 2 Γ [.dat (lI s), .dat (.int k)] = .ret (.dat (lI (flipN s k)), .all) := by
  obtain ⟨n, rfl⟩ : ∃ n : Nat, k = n := ⟨k.toNat, by omega⟩
  have hn : n < s.length := by omega
  refine callS_ret rfl ?_
  have s0 : St (startN 2 [.dat (lI s), .dat (.int (n : Nat))]) [some (.dat (lI s)), some (.dat (.int (n : Nat)))] [] := st_start rfl
  have v0 := s0.v.ev (Γ := Γ) (i := 0) (d := lI s) rfl
  have v1 := s0.v.ev (Γ := Γ) (i := 1) (d := .int (n : Nat)) rfl
  have ix := ev_ix (Γ := Γ) v0 (.inl rfl) v1 (by omega) (iL_get (by omega) (by omega))
  rw [Int.toNat_natCast] at ix
  have mid : Ev Γ (eLst (aCons (eOp oSub (eC (.int 1)) (eIx (eVar 0) (eVar 1))) aNil)) (startN 2 [.dat (lI s), .dat (.int (n : Nat))]) (.list [.int (1 - s.getD n 0)]) [] := ev_lst (ds := [.int (1 - s.getD n 0)]) (eva_cons (ev_op (op := oSub) (ev_c (.int 1)) ix rfl) eva_nil) (show 1 ≤ 16777216 by decide)
  have a1 := ev_addL (ev_slHi v0 v1) mid (by rw [List.length_map, List.length_take]; simp; omega)
  have e : (PyData.list (iL (s.take n) ++ [.int (1 - s.getD n 0)] ++ iL (s.drop (n + 1)))) = lI (flipN s n) := by
    unfold flipN lI
    rw [Int.toNat_natCast, ← flip_cut s hn]
    unfold iL
    rw [List.map_append, List.map_append]
    rfl
  have a2 := rp_addL a1 (ev_slLo v0 (ev_add v1 (ev_c (.int 1))) (k := n + 1) (by omega)) (by rw [List.length_append, List.length_map, List.length_take, List.length_map, List.length_drop]; simp; omega) (by
    injection e with e
    rw [e]
    exact purL_iL _)
  rw [e] at a2
  exact a2
theorem own_restless {iN : Nat} {d sd : PyData} {nt : NetT} {s : List Int} (hsd : Sq sd (iL s)) (hlen : nt.length = s.length) (hl : nt.length ≤ 1000) (hN : Γ iN [.dat d, .dat sd] = .ret (.dat (lI (stepN nt s)), .all)) :
    callS (S__law_e_restless iN) 2 4 Γ [.dat d, .dat sd] = .ret (.dat (lI (restN nt s)), .all) := by
  refine callS_ret rfl ?_
  have s0 : St (startN 4 [.dat d, .dat sd]) [some (.dat d), some (.dat sd), none, none] [] := st_start rfl
  have en := ei_enumA (Γ := Γ) (ev_rP (rp_call (eva_cons (s0.v.ev (i := 0) rfl) (eva_cons (s0.v.ev (i := 1) rfl) eva_nil)) hN)) (xs := iL (stepN nt s)) (.inl rfl)
  rw [enumD_iL] at en
  have sl : (stepN nt s).length = nt.length := List.length_map ..
  have lc := rp_lc (Γ := Γ) (own := [2, 3]) (g := gTup [gSlot 2, gSlot 3]) (t := tVal (eOp oNe (eVar 3) (eIx (eVar 1) (eVar 2)))) (e := eVar 2) (items := (stepN nt s).zipIdx 0) (p := fun z => .tuple [.int (z.2 : Nat), .int z.1]) (V := fun z => .int (z.2 : Nat)) (q := fun z => decide (z.1 ≠ s.getD z.2 0)) s0.v en (by rw [List.length_zipIdx]; omega) fun z hz σ0 h0 => by
    obtain ⟨σ1, g1, g2⟩ := h0.slot2 2 3 (.int (z.2 : Nat)) (.int z.1)
    have zl := (List.getElem?_eq_some_iff.mp (zipIdx_at hz)).1
    refine ⟨σ1, g1, ?_, fun _ => rp_var g2 (d := .int (z.2 : Nat)) rfl rfl⟩
    have ix := ev_ix (Γ := Γ) (g2.ev (i := 1) (d := sd) rfl) hsd (g2.ev (i := 2) (d := .int (z.2 : Nat)) rfl) (by omega) (iL_get (by omega) (by omega))
    have := ev_tval (ev_op (g2.ev (i := 3) (d := .int z.1) rfl) ix (oNe_int _ _))
    rw [Int.toNat_natCast] at this
    exact this
  have e : ((((stepN nt s).zipIdx 0).filter fun z => decide (z.1 ≠ s.getD z.2 0)).map fun z => PyData.int (z.2 : Nat)) = iL (restN nt s) := by
    unfold restN iL
    rw [List.map_map]
    rfl
  rw [e] at lc
  exact lc
theorem own_step {iA : Nat} {nt : NetT} {s : List Int} (hl : nt.length ≤ 16777216) (h : ∀ m ∈ nt, ∃ f, Γ iA [.dat (lP m), .dat (lI s)] = .ret (.dat (.int (valD m s)), f)) : callS (S__law_e_step iA) 2 3 Γ [.dat (lN nt), .dat (lI s)] = .ret (.dat (lI (stepN nt s)), .all) := by
  refine callS_ret rfl ?_
  have s0 : St (startN 3 [.dat (lN nt), .dat (lI s)]) [some (.dat (lN nt)), some (.dat (lI s)), none] [] := st_start rfl
  have lc := rp_lc (Γ := Γ) (own := [2]) (g := gSlot 2) (t := tYesD) (e := eCall iA (aCons (eVar 2) (aCons (eVar 1) aNil))) (items := nt) (p := lP) (V := fun m => .int (valD m s)) (q := fun _ => true) s0.v (ei_val (s0.v.ev (i := 0) (d := lN nt) rfl) (xs := nt.map lP) (.inl rfl)) hl fun m hm σ0 h0 => by
    obtain ⟨σ1, g1, g2⟩ := h0.slot 2 (lP m)
    obtain ⟨f, hf⟩ := h m hm
    refine ⟨σ1, g1, rfl, fun _ => ?_⟩
    obtain ⟨rs, a1, a2, a3⟩ := eva_cons (Γ := Γ) (g2.ev (i := 2) (d := lP m) rfl) (eva_cons (g2.ev (i := 1) (d := lI s) rfl) eva_nil)
    rw [eCall_of a1 (by rw [a2]; exact hf), finV_dat, fin_int]
  rw [filter_true] at lc
  have e : nt.map (fun m => PyData.int (valD m s)) = iL (stepN nt s) := by
    unfold stepN iL
    rw [List.map_map]
    rfl
  rw [e] at lc
  exact lc
/-! while -/
theorem whileGo_wp {c : Nat} {t : SemT} {b : SemS} {I : Nat → SD → Prop} {J : SD → Prop} (h : ∀ k σ, I k σ → (t Γ σ = .ret false ∧ J σ) ∨ (t Γ σ = .ret true ∧ ∃ k', k = k' + 1 ∧ Wp c (b Γ σ) (NX (I k')))) : ∀ (n k : Nat) {σ : SD}, I k σ → k < n → Wp (c * k) (whileGo t b Γ n σ) (NX J)
  | 0, k, _, _, hk => by omega
  | n + 1, k, σ, hI, hk => by
    unfold whileGo
    rcases h k σ hI with ⟨h1, h2⟩ | ⟨h1, k', rfl, h2⟩
    · rw [h1, bind_ret, if_neg (by simp)]
      exact Wp.retc ⟨σ, rfl, h2⟩
    · rw [h1, bind_ret, if_pos rfl]
      refine (Wp.bind (c2 := c * k') h2 fun o ho => ?_).le (by rw [Nat.mul_succ]; omega)
      obtain ⟨σ2, rfl, h3⟩ := ho
      exact whileGo_wp h n k' h3 (by omega)
theorem q_while {c c2 : Nat} {t : SemT} {b b' : SemS} {I : Nat → SD → Prop} {J : SD → Prop} {Q : Out → Prop} (k : Nat) (hk : k < 65536) (h0 : I k σ) (h : ∀ k σ, I k σ → (t Γ σ = .ret false ∧ J σ) ∨ (t Γ σ = .ret true ∧ ∃ k', k = k' + 1 ∧ Wp c (b Γ σ) (NX (I k'))))
    (hJ : ∀ σ', J σ' → Wp c2 (b' Γ σ') Q) : Wp (c * k + c2) (sSeq (sWhile t b) b' Γ σ) Q :=
  q_nx (Q1 := J) (whileGo_wp h _ k h0 hk) hJ
theorem dro_lst {r : SemA} {ds : List PyData} {T : List Nat} {P : PyData → Prop} (h : EvA Γ r σ (ds.map Vl.dat) T) (hl : ds.length ≤ 16777216) (p : P (.list ds)) : DrO Γ 0 (eLst r) σ T true P := by
  obtain ⟨rs, h1, h2, h3⟩ := h
  have hd := datas_of h2
  have e : eLst r Γ σ = .ret (fin (.list ds) (tsOf rs) (dispF rs)) := by
    unfold eLst
    rw [h1, bind_ret, hd]
    dsimp only
    rw [if_pos hl]
  unfold DrO
  rw [e]
  refine Wp.retc ⟨_, fin_v _ _ _, p, fun x hx => h3 x (fin_t _ _ _ x hx), fun _ => ?_⟩
  unfold dispF
  cases allF rs with
  | true => rw [if_pos rfl, fin_all]; exact fun z => by cases z
  | false => exact fun z => by cases z
theorem nodup_len {α : Type} [DecidableEq α] {F S : List α} (hn : F.Nodup) (hs : ∀ x ∈ F, x ∈ S) : F.length ≤ S.length := hn.length_le_of_subset hs
theorem len6 {o0 o1 o2 o3 o4 o5 : Option Vl} : [o0, o1, o2, o3, o4, o5].length = 6 := rfl
theorem sp_reached {iR iF : Nat} {nt : NetT} {s : List Int} (hl : nt.length ≤ 5) (hs : s ∈ stT nt)
    (hR : ∀ s ∈ stT nt, Γ iR [.dat (lN nt), .dat (lI s)] = .ret (.dat (lI (restN nt s)), .all)) (hF : ∀ s ∈ stT nt, ∀ k : Int, 0 ≤ k → k < nt.length → Γ iF [.dat (lI s), .dat (.int k)] = .ret (.dat (lI (flipN s k)), .all)) :
    ∃ (F : List (List Int)) (f : Fr), callS (S__law_e_reached iR iF) 2 6 Γ [.dat (lN nt), .dat (lI s)] = .ret (.dat (.list (F.map lI)), f) ∧ F.length ≤ 32 ∧ ∀ x ∈ F, x ∈ stT nt := by
  have ssl : (stT nt).length ≤ 32 := stD_len hl
  have w : Wp 0 (callS (S__law_e_reached iR iF) 2 6 Γ [.dat (lN nt), .dat (lI s)]) fun z => ∃ e f, z = (.dat e, f) ∧ ∃ F : List (List Int), e = .list (F.map lI) ∧ F.length ≤ 32 ∧ ∀ x ∈ F, x ∈ stT nt := by
    refine Wp.callRT rfl ?_
    have s0 : St (startN 6 [.dat (lN nt), .dat (lI s)]) [some (.dat (lN nt)), some (.dat (lI s)), none, none, none, none] [] := st_start rfl
    refine (q_par2 (c1 := 0) (c2 := 0) (c := 0) (o1 := true) (o2 := false) (P1 := fun d => d = .list ([s].map lI)) (P2 := fun d => d = .int 0) s0 (dro_lst (ds := [lI s]) (eva_cons (s0.v.ev (i := 1) rfl) eva_nil) (show 1 ≤ 16777216 by decide) rfl) ((ev_c (.int 0)).dr (P := fun d => d = .int 0) rfl).o rfl fun d1 d2 σ2 hd1 hd2 s2 => ?_).le (Nat.le_refl _)
    subst hd1
    subst hd2
    refine (q_while (c := 0) (c2 := 0) (I := fun k σ => ∃ (F : List (List Int)) (j : Nat) (o4 o5 : Option Vl), St σ [some (.dat (lN nt)), some (.dat (lI s)), some (.dat (.list (F.map lI))), some (.dat (.int j)), o4, o5] [2] ∧ F.Nodup ∧ (∀ x ∈ F, x ∈ stT nt) ∧ j ≤ F.length ∧ k = 32 - j)
      (J := fun σ => ∃ (F : List (List Int)) (j : Nat) (o4 o5 : Option Vl), St σ [some (.dat (lN nt)), some (.dat (lI s)), some (.dat (.list (F.map lI))), some (.dat (.int j)), o4, o5] [2] ∧ F.length ≤ 32 ∧ (∀ x ∈ F, x ∈ stT nt)) 32 (by decide)
      ⟨[s], 0, none, none, s2, by simp, fun x hx => by
        have : x = s := by simpa using hx
        subst this
        exact hs, by simp, by simp⟩ (fun k σ hI => ?_) fun σ' hJ => ?_).le (by omega)
    · obtain ⟨F, j, o4, o5, st, hn, hm, hj, rfl⟩ := hI
      have hFl : F.length ≤ 32 := Nat.le_trans (nodup_len hn hm) ssl
      have tt := ev_tval (ev_op (Γ := Γ) (op := oLt) (st.v.ev (i := 3) (d := .int j) rfl) (ev_len (st.v.ev (i := 2) (d := .list (F.map lI)) rfl) (.inl rfl)) (r := .bool (decide ((j : Int) < (F.map lI).length))) rfl)
      rw [List.length_map] at tt
      by_cases hc : j < F.length
      · right
        rw [decide_eq_true (by omega)] at tt
        refine ⟨tt, 32 - (j + 1), by omega, ?_⟩
        obtain ⟨one, hone⟩ : ∃ one, F[j]? = some one := ⟨F[j], List.getElem?_eq_getElem hc⟩
        have om := hm one (List.mem_of_getElem? hone)
        have at_ : ∀ {σ : SD} {G : List (List Int)} {o4 o5 : Option Vl}, Vw σ [some (.dat (lN nt)), some (.dat (lI s)), some (.dat (.list ((F ++ G).map lI))), some (.dat (.int j)), o4, o5] → Ev Γ (eIx (eVar 2) (eVar 3)) σ (lI one) [2] := fun {σ G o4 o5} v =>
          ev_ix (v.ev (i := 2) (d := .list ((F ++ G).map lI)) rfl) (.inl rfl) (v.ev (i := 3) (d := .int j) rfl) (by omega) (by rw [Int.toNat_natCast, List.getElem?_map, List.getElem?_append_left hc, hone]; rfl)
        have hi := rp_call (Γ := Γ) (i := iR) (eva_cons (st.v.ev (i := 0) (d := lN nt) rfl) (eva_cons (at_ (G := []) (by rw [List.append_nil]; exact st.v)) eva_nil)) (hR one om)
        refine (q_for (c1 := 0) (c2 := 0) (I := fun _ σ => ∃ (G : List (List Int)) (o4 o5 : Option Vl), St σ [some (.dat (lN nt)), some (.dat (lI s)), some (.dat (.list ((F ++ G).map lI))), some (.dat (.int j)), o4, o5] [2] ∧ (F ++ G).Nodup ∧ (∀ x ∈ F ++ G, x ∈ stT nt))
          (ei_val (ev_rP hi) (xs := iL (restN nt one)) (.inl rfl)) (fun ct hct => ⟨[], o4, o5, by rw [List.append_nil]; exact st.demote hct rfl, by rw [List.append_nil]; exact hn, by rw [List.append_nil]; exact hm⟩) (fun q x σ1 hx hI => ?_) fun σ1 hI => ?_).le (by omega)
        · obtain ⟨G, p4, p5, s1, n1, m1⟩ := hI
          obtain ⟨kk, hkk, rfl⟩ := iL_at hx
          obtain ⟨k0, k1⟩ := restN_mem (List.mem_of_getElem? hkk)
          obtain ⟨σa, g1, ga⟩ := s1.slot (i := 4) rfl (.int kk)
          refine ⟨σa, g1, ?_⟩
          have cf := rp_call (Γ := Γ) (i := iF) (eva_cons (at_ ga.v) (eva_cons (ga.v.ev (i := 4) (d := .int kk) rfl) eva_nil)) (hF one om kk k0 k1)
          refine q_set0 (i := 5) ga (ev_rP cf) rfl fun σb sb => ?_
          have fm : flipN one kk ∈ stT nt := flipN_mem om k0 k1
          have tn := ev_tval (ev_op (Γ := Γ) (sb.v.ev (i := 5) (d := lI (flipN one kk)) rfl) (sb.v.ev (i := 2) (d := .list ((F ++ G).map lI)) rfl) (oNotIn_lI (flipN one kk) (F ++ G)))
          have gl : (F ++ G).length ≤ 32 := Nat.le_trans (nodup_len n1 m1) ssl
          by_cases hin : flipN one kk ∈ F ++ G
          · rw [decide_eq_true hin] at tn
            refine q_iff tn (q_nil ⟨G, some (.dat (.int kk)), some (.dat (lI (flipN one kk))), sb, n1, m1⟩)
          · rw [decide_eq_false hin] at tn
            refine (q_ift (c1 := 0) (c2 := 0) (Q1 := fun σ => St σ [some (.dat (lN nt)), some (.dat (lI s)), some (.dat (.list ((F ++ G).map lI ++ [lI (flipN one kk)]))), some (.dat (.int j)), some (.dat (.int kk)), some (.dat (lI (flipN one kk)))] [2]) tn ?_ fun σc sc => ?_).le (by omega)
            · exact (q_app (c1 := 0) (c2 := 0) (P := fun d => d = lI (flipN one kk)) (i := 2) sb rfl ((sb.v.ev (i := 5) rfl).dr rfl) rfl (by rw [List.length_map]; omega) fun d σd hd sd => by
                subst hd
                exact q_nil sd).le (by omega)
            · refine q_nil ⟨G ++ [flipN one kk], some (.dat (.int kk)), some (.dat (lI (flipN one kk))), ?_, ?_, ?_⟩
              · rw [← List.append_assoc, List.map_append]
                exact sc
              · rw [← List.append_assoc]
                refine List.nodup_append.mpr ⟨n1, by simp, fun a ha b hb => ?_⟩
                have : b = flipN one kk := by simpa using hb
                rw [this]
                intro e
                rw [e] at ha
                exact hin ha
              · intro x hx
                rw [← List.append_assoc] at hx
                rcases List.mem_append.mp hx with hx | hx
                · exact m1 x hx
                · have : x = flipN one kk := by simpa using hx
                  rw [this]
                  exact fm
        · obtain ⟨G, p4, p5, s1, n1, m1⟩ := hI
          refine q_set0 (i := 3) s1 (ev_add (s1.v.ev (i := 3) (d := .int j) rfl) (ev_c (.int 1))) rfl fun σ3 s3 => ?_
          exact q_nil ⟨F ++ G, j + 1, p4, p5, s3, n1, m1, by rw [List.length_append]; omega, rfl⟩
      · left
        rw [decide_eq_false (by omega)] at tt
        exact ⟨tt, F, j, o4, o5, st, hFl, hm⟩
    · obtain ⟨F, j, o4, o5, st, hFl, hm⟩ := hJ
      refine q_ret ((ev_sortedL (st.v.ev (i := 2) rfl) (by omega)).dr ⟨srtL F, rfl, ?_, fun x hx => hm x ((List.mergeSort_perm _ _).mem_iff.mp hx)⟩)
      unfold srtL
      rw [List.length_mergeSort]
      exact hFl
  obtain ⟨z, h, e, f, rfl, F, rfl, h1, h2⟩ := w.det0
  exact ⟨F, f, h, h1, h2⟩
end DD
set_option Elab.async false
set_option linter.all false
set_option maxRecDepth 100000
set_option maxHeartbeats 4000000
/-! P34: more rules where both sides draw; bent. -/
namespace DD
open PySem
variable {Γ : FEnv} {σ : SD} {vs : List (Option Vl)}
theorem dr_binD {c1 c2 : Nat} {a b : SemE} {K : R → R → M R} {T T' T2 : List Nat} {P P' Q : PyData → Prop} (h : Dr Γ c1 a σ T P) (h' : Dr Γ c2 b σ T' P')
    (k : ∀ (x y : R) d e, x.v = .dat d → y.v = .dat e → P d → P' e → (∀ t ∈ x.t, t ∈ T) → (∀ t ∈ y.t, t ∈ T') → ∃ z r, K x y = .ret z ∧ z.v = .dat r ∧ Q r ∧ ∀ t ∈ z.t, t ∈ T2) : Dr Γ (c1 + c2) (eBin K a b) σ T2 Q := by
  unfold Dr eBin
  refine Wp.bind h fun x hx => ?_
  obtain ⟨d, x1, x2, x3⟩ := hx
  refine (Wp.bind (c2 := 0) h' fun y hy => ?_).le (Nat.le_refl _)
  obtain ⟨e, y1, y2, y3⟩ := hy
  obtain ⟨z, r, z1, z2, z3, z4⟩ := k x y d e x1 y1 x2 y2 x3 y3
  rw [z1]
  exact Wp.ret ⟨r, z2, z3, z4⟩
theorem dr_addD {c1 c2 : Nat} {a b : SemE} {T T' : List Nat} {P P' Q : PyData → Prop} (h : Dr Γ c1 a σ T P) (h' : Dr Γ c2 b σ T' P') (k : ∀ d e, P d → P' e → ∃ xs ys, d = .list xs ∧ e = .list ys ∧ xs.length + ys.length ≤ 16777216 ∧ Q (.list (xs ++ ys))) : Dr Γ (c1 + c2) (eAdd a b) σ (T ++ T') Q := by
  refine dr_binD h h' fun x y d e x1 y1 p p' x3 y3 => ?_
  obtain ⟨xs, ys, rfl, rfl, hl, q⟩ := k d e p p'
  refine ⟨fin (.list (xs ++ ys)) (x.t ++ y.t) (both x y (.list (xs ++ ys))), _, ?_, fin_v _ _ _, q, fun t ht => ?_⟩
  · unfold addK
    rw [x1, y1]
    dsimp only
    rw [if_pos hl]
  · rcases List.mem_append.mp (fin_t _ _ _ t ht) with z | z
    · exact List.mem_append_left _ (x3 t z)
    · exact List.mem_append_right _ (y3 t z)
theorem dr_lst1 {c : Nat} {a : SemE} {T : List Nat} {P : PyData → Prop} (h : Dr Γ c a σ T P) : Dr Γ c (eLst (aCons a aNil)) σ T fun e => ∃ x, e = .list [x] ∧ P x := by
  unfold Dr eLst aCons
  rw [bind_assoc']
  refine (Wp.bind (c2 := 0) h fun y hy => ?_).le (Nat.le_refl _)
  obtain ⟨e, h1, h2, h3⟩ := hy
  unfold aNil
  rw [bind_ret, bind_ret]
  have : datas [y] = some [e] := datas_of (by rw [List.map_cons, h1]; rfl)
  rw [this]
  dsimp only
  rw [if_pos (show [e].length ≤ 16777216 from (by decide : 1 ≤ 16777216))]
  refine Wp.ret ⟨_, fin_v _ _ _, ⟨e, rfl, h2⟩, fun t ht => ?_⟩
  have := fin_t _ _ _ t ht
  unfold tsOf at this
  rw [List.flatMap_cons] at this
  rcases List.mem_append.mp this with z | z
  · exact h3 t z
  · cases z
theorem dr_tupD {c1 c2 : Nat} {a b : SemE} {T T' : List Nat} {P P' : PyData → Prop} (h : Dr Γ c1 a σ T P) (h' : Dr Γ c2 b σ T' P') : Dr Γ (c1 + c2) (eTup (aCons a (aCons b aNil))) σ (T ++ T') fun e => ∃ x y, e = .tuple [x, y] ∧ P x ∧ P' y := by
  unfold Dr eTup aCons
  rw [bind_assoc']
  refine Wp.bind h fun x hx => ?_
  obtain ⟨d, g1, g2, g3⟩ := hx
  rw [bind_assoc', bind_assoc']
  refine (Wp.bind (c2 := 0) h' fun y hy => ?_).le (Nat.le_refl _)
  obtain ⟨e, h1, h2, h3⟩ := hy
  unfold aNil
  rw [bind_ret, bind_ret, bind_ret]
  have : datas [x, y] = some [d, e] := datas_of (by rw [List.map_cons, List.map_cons, g1, h1]; rfl)
  rw [this]
  dsimp only
  rw [if_pos (show [d, e].length ≤ 16777216 from (by decide : 2 ≤ 16777216))]
  refine Wp.ret ⟨_, fin_v _ _ _, ⟨d, e, rfl, g2, h2⟩, fun t ht => ?_⟩
  have := fin_t _ _ _ t ht
  unfold tsOf at this
  rw [List.flatMap_cons, List.flatMap_cons] at this
  rcases List.mem_append.mp this with z | z
  · exact List.mem_append_left _ (g3 t z)
  · rcases List.mem_append.mp z with z | z
    · exact List.mem_append_right _ (h3 t z)
    · cases z
theorem q_ifw {c1 c2 : Nat} {t : SemT} {a a' b : SemS} {Pt : Bool → Prop} {P : PyData → Prop} (ht : Wp c1 (t Γ σ) Pt) (h1 : Pt true → Wp c2 (a Γ σ) (RT P)) (h2 : Pt false → Wp c2 (sSeq a' b Γ σ) (RT P)) : Wp (c1 + c2) (sSeq (sIf t a a') b Γ σ) (RT P) := by
  unfold sSeq sIf
  rw [bind_assoc']
  refine Wp.bind ht fun k hk => ?_
  cases k with
  | true =>
    rw [if_pos rfl]
    refine (Wp.bind (c2 := 0) (h1 hk) fun o ho => ?_).le (Nat.le_refl _)
    obtain ⟨d, f, σ', rfl, p⟩ := ho
    exact Wp.ret ⟨d, f, σ', rfl, p⟩
  | false =>
    rw [if_neg (by simp)]
    exact h2 hk
theorem nil_then {b : SemS} : sSeq sNil b Γ σ = b Γ σ := rfl
/-- return tuple(x) or x, as drawn -/
theorem q_retTV {c i : Nat} {t : SemT} {b : SemS} {xs : List PyData} {Pt : Bool → Prop} {P : PyData → Prop} (v : Vw σ vs) (hv : vs[i]? = some (some (.dat (.list xs)))) (ht : Wp c (t Γ σ) Pt) (p1 : P (.list xs)) (p2 : P (.tuple xs)) : Wp c (sSeq (sIf t (sRetT i) (sRetV i)) b Γ σ) (RT P) := by
  refine (Wp.seq (c2 := 0) (Q1 := RT P) ?_ fun o ho => ?_).le (Nat.le_refl _)
  · unfold sIf
    refine (Wp.bind (c2 := 0) ht fun k _ => ?_).le (Nat.le_refl _)
    obtain ⟨m, hm⟩ := v.at hv
    cases k with
    | true =>
      obtain ⟨f, hf, _⟩ := sRetT_of (Γ := Γ) hm
      rw [if_pos rfl, hf]
      exact Wp.ret ⟨_, _, _, rfl, p2⟩
    | false =>
      rw [if_neg (by simp), sRetV_of hm]
      exact Wp.ret ⟨_, _, _, rfl, p1⟩
  · obtain ⟨d, f, σ', rfl, p⟩ := ho
    exact Wp.ret ⟨d, f, σ', rfl, p⟩
theorem ev_cutHi {a b : SemE} {T T' : List Nat} {d : PyData} {xs : List PyData} {k : Nat} (h : Ev Γ a σ d T) (hs : Sq d xs) (hb : Ev Γ b σ (.int k) T') : Ev Γ (eList (eSl a oNone (oSome b))) σ (.list (xs.take k)) T := by
  obtain ⟨x, h1, h2, h3⟩ := h
  obtain ⟨y, g1, g2, _⟩ := hb
  have key : ∃ d', Sq d' (xs.take k) ∧ Ev Γ (eSl a oNone (oSome b)) σ d' T := by
    rcases hs with rfl | rfl
    · refine ⟨.list (xs.take k), .inl rfl, fin (.list (xs.take k)) x.t (subF x (.list (xs.take k))), ?_, fin_v _ _ _, fun t ht => h3 t (fin_t _ _ _ t ht)⟩
      unfold eSl oNone oSome
      rw [h1, bind_ret, bind_ret, g1, bind_ret, g2]
      dsimp only
      rw [bind_ret]
      unfold slK
      rw [h2]
      dsimp only
      rw [cutHi]
    · refine ⟨.tuple (xs.take k), .inr rfl, part x (.tuple (xs.take k)), ?_, fin_v _ _ _, fun t ht => h3 t (part_t _ _ t ht)⟩
      unfold eSl oNone oSome
      rw [h1, bind_ret, bind_ret, g1, bind_ret, g2]
      dsimp only
      rw [bind_ret]
      unfold slK
      rw [h2]
      dsimp only
      rw [cutHi]
  obtain ⟨d', e1, e2⟩ := key
  exact ev_list e2 e1
theorem ev_cutLo {a b : SemE} {T T' : List Nat} {d : PyData} {xs : List PyData} {k : Nat} (h : Ev Γ a σ d T) (hs : Sq d xs) (hb : Ev Γ b σ (.int k) T') (hk : k ≤ xs.length) : Ev Γ (eList (eSl a (oSome b) oNone)) σ (.list (xs.drop k)) T := by
  obtain ⟨x, h1, h2, h3⟩ := h
  obtain ⟨y, g1, g2, _⟩ := hb
  have key : ∃ d', Sq d' (xs.drop k) ∧ Ev Γ (eSl a (oSome b) oNone) σ d' T := by
    rcases hs with rfl | rfl
    · refine ⟨.list (xs.drop k), .inl rfl, fin (.list (xs.drop k)) x.t (subF x (.list (xs.drop k))), ?_, fin_v _ _ _, fun t ht => h3 t (fin_t _ _ _ t ht)⟩
      unfold eSl oNone oSome
      rw [h1, bind_ret, g1, bind_ret, g2]
      dsimp only
      rw [bind_ret, bind_ret]
      unfold slK
      rw [h2]
      dsimp only
      rw [cutN _ hk]
    · refine ⟨.tuple (xs.drop k), .inr rfl, part x (.tuple (xs.drop k)), ?_, fin_v _ _ _, fun t ht => h3 t (part_t _ _ t ht)⟩
      unfold eSl oNone oSome
      rw [h1, bind_ret, g1, bind_ret, g2]
      dsimp only
      rw [bind_ret, bind_ret]
      unfold slK
      rw [h2]
      dsimp only
      rw [cutN _ hk]
  obtain ⟨d', e1, e2⟩ := key
  exact ev_list e2 e1
theorem ev_rev {a : SemE} {T : List Nat} {xs : List PyData} (h : Ev Γ a σ (.list xs) T) : Ev Γ (eRev a) σ (.list xs.reverse) T := by
  refine ev_mon h fun x hx ht => ⟨fin (.list xs.reverse) x.t (if itP (.list xs) then .all else .top), ?_, fin_v _ _ _, fun t h => ht t (fin_t _ _ _ t h)⟩
  unfold revK
  rw [hx]
/-- trees: no dict in it but the empty one, at most n deep, at most L wide -/
inductive Bt (L : Nat) : Nat → PyData → Prop
  | none {n : Nat} : Bt L n .none
  | bool {n : Nat} (b : Bool) : Bt L n (.bool b)
  | dict {n : Nat} : Bt L (n + 1) (.dict [])
  | int {n : Nat} (i : Int) : Bt L n (.int i)
  | str {n : Nat} (s : Str) : Bt L n (.str s)
  | list {n : Nat} {xs : List PyData} (h : ∀ x ∈ xs, Bt L n x) (hl : xs.length ≤ L) : Bt L (n + 1) (.list xs)
  | tuple {n : Nat} {xs : List PyData} (h : ∀ x ∈ xs, Bt L n x) (hl : xs.length ≤ L) : Bt L (n + 1) (.tuple xs)
theorem Bt.up {L n : Nat} {d : PyData} (h : Bt L n d) : Bt L (n + 1) d := by
  induction h with
  | none => exact .none
  | bool b => exact .bool b
  | dict => exact .dict
  | int i => exact .int i
  | str s => exact .str s
  | list h hl ih => exact .list ih hl
  | tuple h hl ih => exact .tuple ih hl
theorem Bt.le {L n m : Nat} {d : PyData} (h : Bt L n d) (hn : n ≤ m) : Bt L m d := by
  induction m with
  | zero => have : n = 0 := by omega
            subst this; exact h
  | succ m ih =>
    rcases Nat.lt_or_ge n (m + 1) with c | c
    · exact (ih (by omega)).up
    · have : n = m + 1 := by omega
      subst this; exact h
theorem Bt.wide {L L' n : Nat} {d : PyData} (h : Bt L n d) (hn : L ≤ L') : Bt L' n d := by
  induction h with
  | none => exact .none
  | bool b => exact .bool b
  | dict => exact .dict
  | int i => exact .int i
  | str s => exact .str s
  | list h hl ih => exact .list ih (by omega)
  | tuple h hl ih => exact .tuple ih (by omega)
theorem Bt.noDic {L n : Nat} {d : PyData} (h : Bt L n d) (hL : L ≤ 16777216) : NoDic n d := by
  induction h with
  | none => exact .none
  | bool b => exact .bool b
  | dict => exact .dict
  | int i => exact .int i
  | str s => exact .str s
  | list h hl ih => exact .list ih (by omega)
  | tuple h hl ih => exact .tuple ih (by omega)
theorem Bt.seq {L n : Nat} {d : PyData} {xs : List PyData} (h : Bt L n d) (hs : Sq d xs) : xs.length ≤ L ∧ ∃ m, n = m + 1 ∧ ∀ x ∈ xs, Bt L m x := by
  rcases hs with rfl | rfl
  · cases h with
    | list h hl => exact ⟨hl, _, rfl, h⟩
  · cases h with
    | tuple h hl => exact ⟨hl, _, rfl, h⟩
theorem Bt.ofSq {L n : Nat} {d : PyData} {xs : List PyData} (hs : Sq d xs) (h : ∀ x ∈ xs, Bt L n x) (hl : xs.length ≤ L) : Bt L (n + 1) d := by
  rcases hs with rfl | rfl
  · exact .list h hl
  · exact .tuple h hl
theorem dr_pick {iP : Nat} {L n : Nat} {odds : List PyData} {c s o : Nat} (v : Vw σ vs) (e1 : vs[s]? = some (some .strm)) (e2 : vs[o]? = some (some (.dat (.list odds))))
    (hp : ∀ xs : List PyData, 0 < xs.length → xs.length < 1000000 → Wp 1 (Γ iP [.strm, .dat (.list xs)]) fun z => ∃ d f, z = (.dat d, f) ∧ d ∈ xs) (h0 : 0 < odds.length) (h1 : odds.length < 1000000) :
    Dr Γ 1 (eCall iP (aCons (eVar s) (aCons (eVar o) aNil))) σ [o] fun d => d ∈ odds :=
  Dr.mono (dr_call (eva_strm v e1 (eva_cons (v.ev e2) eva_nil)) (hp odds h0 h1)) (Nat.le_refl _) fun _ z => z
theorem sp_bent {iD iP iB L n c : Nat} {odds : List PyData} {d : PyData} (hd : ∀ xs, Γ iD xs = DD.drawM xs) (hp : ∀ xs : List PyData, 0 < xs.length → xs.length < 1000000 → Wp 1 (Γ iP [.strm, .dat (.list xs)]) fun z => ∃ d f, z = (.dat d, f) ∧ d ∈ xs)
    (h0 : 0 < odds.length) (h1 : odds.length < 1000000) (hL : L < 1000000) (ho : ∀ o ∈ odds, Bt L (n + 1) o) (hx : ∀ xs, Sq d xs → xs.length + 1 ≤ L ∧ (∀ x ∈ xs, Bt L n x) ∧ ∀ x ∈ xs, Wp c (Γ iB [.strm, .dat x, .dat (.list odds)]) fun z => ∃ d f, z = (.dat d, f) ∧ Bt L n d) :
    Wp (c + 5) (callS (S__law_e_bent iD iP iB) 3 7 Γ [.strm, .dat d, .dat (.list odds)]) fun z => ∃ d f, z = (.dat d, f) ∧ Bt L (n + 1) d := by
  refine Wp.callRT rfl ?_
  have s0 : St (startN 7 [.strm, .dat d, .dat (.list odds)]) [some .strm, some (.dat d), some (.dat (.list odds)), none, none, none, none] [] := st_start rfl
  have tl : tNot (tVal (eIsi (eVar 1) [.list, .tuple])) Γ (startN 7 [.strm, .dat d, .dat (.list odds)]) = .ret (!isL d) := tNot_of (ev_tval (ev_un (Γ := Γ) (op := isiO [.list, .tuple]) (r := .bool (isL d)) (s0.v.ev (i := 1) (d := d) rfl) (by cases d <;> rfl)))
  have pk : ∀ {b : SemS}, Wp 1 (sSeq (sRet (eCall iP (aCons (eVar 0) (aCons (eVar 2) aNil)))) b Γ (startN 7 [.strm, .dat d, .dat (.list odds)])) (RT fun d => Bt L (n + 1) d) := fun {b} =>
    q_ret (Dr.mono (dr_pick (L := L) (n := n) (c := 0) s0.v rfl rfl hp h0 h1) (Nat.le_refl _) fun d hd => ho d hd)
  cases hl : isL d with
  | false =>
    rw [hl] at tl
    refine (q_ifret (t := tOr _ _) ?_ pk).le (by omega)
    unfold tOr
    rw [tl, bind_ret]
    rfl
  | true =>
    rw [hl] at tl
    obtain ⟨xs, hs⟩ : ∃ xs, Sq d xs := by
      cases d with
      | list xs => exact ⟨xs, .inl rfl⟩
      | tuple xs => exact ⟨xs, .inr rfl⟩
      | _ => cases hl
    obtain ⟨x1, x2, x3⟩ := hx xs hs
    have t2 := ev_eqI (Γ := Γ) 0 (ev_len (s0.v.ev (i := 1) (d := d) rfl) hs)
    refine (q_ifw (c1 := 1) (c2 := c + 4) (Pt := fun k => k = true ∨ 0 < xs.length) ?_ (fun _ => pk.le (by omega)) fun hk => ?_).le (by omega)
    · unfold tOr
      rw [tl, bind_ret, if_neg (by simp), t2, bind_ret]
      by_cases hz : (xs.length : Int) = 0
      · rw [decide_eq_true hz, if_pos rfl]
        exact Wp.retc (.inl rfl)
      · rw [decide_eq_false hz, if_neg (by simp)]
        exact (dr_drawEq (m := 6) 0 hd s0.v rfl (ev_c (.int 6)) (by decide) (by decide)).mono (Nat.le_refl _) fun k _ => .inr (by omega)
    have hlen : 0 < xs.length := by
      rcases hk with hk | hk
      · cases hk
      · exact hk
    rw [nil_then]
    refine (q_par2 (c1 := 1) (c2 := 1) (c := c + 2) (o1 := false) (o2 := false) s0 (dr_draw (m := xs.length) hd s0.v rfl (ev_len (s0.v.ev (i := 1) (d := d) rfl) hs) hlen (by omega)).o (dr_draw (m := 7) hd s0.v rfl (ev_c (.int 7)) (by decide) (by decide)).o rfl fun d1 d2 σ2 hd1 hd2 s2 => ?_).le (by omega)
    obtain ⟨j, hj, rfl⟩ := hd1
    obtain ⟨w, hw, rfl⟩ := hd2
    obtain ⟨y, hy⟩ : ∃ y, xs[j]? = some y := ⟨xs[j], List.getElem?_eq_getElem hj⟩
    have ym := List.mem_of_getElem? hy
    have iy : Ev Γ (eIx (eVar 1) (eVar 3)) σ2 y [1] := ev_ix (s2.v.ev (i := 1) (d := d) rfl) hs (s2.v.ev (i := 3) (d := .int j) rfl) (by omega) (by rw [Int.toNat_natCast]; exact hy)
    have mid : Dr Γ c (eIf (tVal (eOp oEq (eVar 4) (eC (.int 0)))) (eLst aNil) (eIf (tVal (eOp oEq (eVar 4) (eC (.int 1)))) (eLst (aCons (eIx (eVar 1) (eVar 3)) (aCons (eIx (eVar 1) (eVar 3)) aNil))) (eLst (aCons (eCall iB (aCons (eVar 0) (aCons (eIx (eVar 1) (eVar 3)) (aCons (eVar 2) aNil)))) aNil)))) σ2 [1, 2] fun e => ∃ ms, e = .list ms ∧ ms.length ≤ 2 ∧ ∀ x ∈ ms, Bt L n x := by
      refine dr_if (ev_eqI 0 (s2.v.ev (i := 4) rfl)) (fun _ => ?_) fun _ => dr_if (ev_eqI 1 (s2.v.ev (i := 4) rfl)) (fun _ => ?_) fun _ => ?_
      · exact Dr.mono ((ev_lst (ds := []) eva_nil (show 0 ≤ 16777216 by decide)).sub (T' := [1, 2]) (fun _ z => by cases z) |>.dr ⟨[], rfl, by decide, fun _ z => by cases z⟩) (Nat.zero_le _) fun _ z => z
      · exact Dr.mono ((ev_lst (ds := [y, y]) (eva_cons iy (eva_cons iy eva_nil)) (show 2 ≤ 16777216 by decide)).sub (T' := [1, 2]) (fun t ht => by simp at ht; simp [ht]) |>.dr ⟨[y, y], rfl, Nat.le_refl 2, fun x hx => by
          simp at hx
          rw [hx]
          exact x2 y ym⟩) (Nat.zero_le _) fun _ z => z
      · exact Dr.mono (dr_lst1 (dr_call (T := [1, 2]) (eva_strm s2.v rfl (eva_cons iy (eva_cons (s2.v.ev (i := 2) rfl) eva_nil))) (x3 y ym))) (Nat.le_refl _) fun e ⟨x, he, hb⟩ => ⟨[x], he, (show 1 ≤ 2 by decide), fun z hz => by
          have : z = x := by simpa using hz
          rw [this]
          exact hb⟩
    refine (q_set (c1 := c) (c2 := 1) s2 mid rfl fun e σ5 he s5 => ?_).le (by omega)
    obtain ⟨ms, rfl, m1, m2⟩ := he
    have v1 := s5.v.ev (Γ := Γ) (i := 1) (d := d) rfl
    have v3 := s5.v.ev (Γ := Γ) (i := 3) (d := .int j) rfl
    have a1 := ev_addL (ev_cutHi v1 hs v3) (s5.v.ev (i := 5) (d := .list ms) rfl) (by rw [List.length_take]; omega)
    have a2 := ev_addL a1 (ev_cutLo v1 hs (ev_add v3 (ev_c (.int 1))) (k := j + 1) (by omega)) (by rw [List.length_append, List.length_take, List.length_drop]; omega)
    have a3 := ev_rev (ev_list v1 hs)
    have fin : Dr Γ 0 (eIf (tVal (eOp oNe (eVar 4) (eC (.int 2)))) (eAdd (eAdd (eList (eSl (eVar 1) oNone (oSome (eVar 3)))) (eVar 5)) (eList (eSl (eVar 1) (oSome (eAdd (eVar 3) (eC (.int 1)))) oNone))) (eRev (eList (eVar 1)))) σ5 [1, 5] fun e => ∃ fs, e = .list fs ∧ fs.length ≤ L ∧ ∀ x ∈ fs, Bt L n x := by
      refine dr_if (ev_tval (ev_op (s5.v.ev (i := 4) rfl) (ev_c (.int 2)) (oNe_int _ _))) (fun _ => ?_) fun _ => ?_
      · refine (a2.sub fun t ht => ?_).dr ⟨_, rfl, ?_, fun x hx => ?_⟩
        · simp at ht
          simp
          omega
        · rw [List.length_append, List.length_append, List.length_take, List.length_drop]
          omega
        · rcases List.mem_append.mp hx with hx | hx
          · rcases List.mem_append.mp hx with hx | hx
            · exact x2 x (List.mem_of_mem_take hx)
            · exact m2 x hx
          · exact x2 x (List.mem_of_mem_drop hx)
      · refine (a3.sub fun t ht => ?_).dr ⟨_, rfl, ?_, fun x hx => ?_⟩
        · simp at ht
          simp [ht]
        · rw [List.length_reverse]
          omega
        · exact x2 x (List.mem_reverse.mp hx)
    refine (q_set (c1 := 0) (c2 := 1) s5 fin rfl fun e σ6 he s6 => ?_).le (by omega)
    obtain ⟨fs, rfl, f1, f2⟩ := he
    exact q_retTV s6.v (i := 6) rfl (dr_drawEq (m := 2) 0 hd s6.v rfl (ev_c (.int 2)) (by decide) (by decide)) (.list f2 f1) (.tuple f2 f1)
end DD
set_option Elab.async false
set_option linter.all false
set_option maxRecDepth 100000
set_option maxHeartbeats 4000000
/-! P35: a for over what draws, calls by names, cuts by any numbers, kept and needed states. -/
namespace DD
open PySem
variable {Γ : FEnv} {σ : SD} {vs : List (Option Vl)} {O : List Nat}
/-- a for whose things draw -/
def DrI (Γ : FEnv) (c : Nat) (i : SemI) (σ : SD) (T : List Nat) (P : List PyData → Prop) : Prop := Wp c (i Γ σ) fun z => P z.1 ∧ ∀ x ∈ z.2, x ∈ T
theorem q_forW {c0 c1 c2 : Nat} {g : SemG} {it : SemI} {b b' : SemS} {T : List Nat} {Q : Out → Prop} {L : Nat} {PI : List PyData → Prop} {I : Nat → SD → Prop} {J : SD → Prop} (hi : DrI Γ c0 it σ T PI) (hL : ∀ items, PI items → items.length ≤ L) (h0 : ∀ ct, (∀ x ∈ ct, x ∈ T) → I 0 (demote ct σ))
    (hb : ∀ items, PI items → ∀ k x σ, items[k]? = some x → I k σ → ∃ σ1, g x σ = .ret σ1 ∧ Wp c1 (b Γ σ1) (NX (I (k + 1)))) (hJ : ∀ items σ, PI items → I items.length σ → J σ)
    (k : ∀ σ', J σ' → Wp c2 (b' Γ σ') Q) : Wp (c0 + c1 * L + c2) (sSeq (sFor it g b) b' Γ σ) Q := by
  refine q_nx (c1 := c0 + c1 * L) (Q1 := J) ?_ k
  unfold sFor
  refine Wp.bind (c2 := c1 * L) hi fun z hz => ?_
  obtain ⟨items, ct⟩ := z
  obtain ⟨p, hct⟩ := hz
  have := forGo_wp (c := c1) (b := b) (Γ := Γ) (g := g) (I := I) items 0 (h0 ct hct) fun j x σ hj hI => by
    rw [Nat.zero_add] at hI ⊢
    exact hb items p j x σ hj hI
  rw [Nat.zero_add] at this
  exact this.mono (Nat.mul_le_mul_left _ (hL items p)) fun o ⟨σ, e, h⟩ => ⟨σ, e, hJ items σ p h⟩
/-- the same where the body may give the end's answer -/
theorem q_forWR {c0 c1 c2 : Nat} {g : SemG} {it : SemI} {b b' : SemS} {T : List Nat} {L : Nat} {P : PyData → Prop} {PI : List PyData → Prop} {I : SD → Prop} (hi : DrI Γ c0 it σ T PI) (hL : ∀ items, PI items → items.length ≤ L) (h0 : ∀ ct, (∀ x ∈ ct, x ∈ T) → I (demote ct σ))
    (hb : ∀ items, PI items → ∀ x ∈ items, ∀ σ, I σ → ∃ σ1, g x σ = .ret σ1 ∧ Wp c1 (b Γ σ1) (NX I))
    (k : ∀ σ', I σ' → Wp c2 (b' Γ σ') Q) : Wp (c0 + c1 * L + c2) (sSeq (sFor it g b) b' Γ σ) Q :=
  q_forW (I := fun _ => I) (J := I) hi hL h0 (fun items p k x σ hx hI => hb items p x (List.mem_of_getElem? hx) σ hI) (fun _ _ _ h => h) k
theorem dri_val {c : Nat} {a : SemE} {T : List Nat} {P : PyData → Prop} {PI : List PyData → Prop} (h : Dr Γ c a σ T P) (hp : ∀ d, P d → ∃ xs, d = .list xs ∧ PI xs) : DrI Γ c (iVal a) σ T PI := by
  unfold DrI iVal
  refine (Wp.bind (c2 := 0) h fun r hr => ?_).le (Nat.le_refl _)
  obtain ⟨d, h1, h2, h3⟩ := hr
  obtain ⟨xs, rfl, p⟩ := hp d h2
  rw [h1]
  exact Wp.ret ⟨p, h3⟩
theorem dri_rg {c m : Nat} {a : SemE} {T : List Nat} {P : PyData → Prop} (h : Dr Γ c a σ T P) (hm : m ≤ 16777216) (hp : ∀ d, P d → ∃ n : Nat, d = .int n ∧ n ≤ m) : DrI Γ c (iRange1 a) σ [] fun xs => xs.length ≤ m := by
  unfold DrI iRange1
  refine (Wp.bind (c2 := 0) h fun r hr => ?_).le (Nat.le_refl _)
  obtain ⟨d, h1, h2, h3⟩ := hr
  obtain ⟨n, rfl, p⟩ := hp d h2
  rw [h1]
  dsimp only
  rw [if_pos (by unfold small62; simp; omega), Int.toNat_natCast]
  refine Wp.ret ⟨?_, fun _ z => by cases z⟩
  show (rangeD 0 n).length ≤ m
  simp [rangeD]
  omega
/-- calls by names: what is handed is reckoned in the call's order -/
theorem ev_callR {i : Nat} {r : SemA} {us : List Vl} {T : List Nat} {d : PyData} {f : Fr} (h : EvA Γ r σ us T) (hz : Γ i us.reverse = .ret (.dat d, f)) : Ev Γ (eCallR i r) σ d T := by
  obtain ⟨rs, g1, g2, g3⟩ := h
  refine ⟨finV (.dat d) (tsOf rs) f, ?_, finV_v _ _ _, fun x hx => g3 x (finV_t _ _ _ x hx)⟩
  unfold eCallR
  rw [g1, bind_ret, g2, hz, bind_ret]
/-- an end of a cut -/
def EvO (Γ : FEnv) (o : SemO) (σ : SD) (k : Option Int) : Prop := o Γ σ = .ret k
theorem evo_none : EvO Γ oNone σ none := rfl
theorem evo_some {a : SemE} {T : List Nat} {k : Int} (h : Ev Γ a σ (.int k) T) : EvO Γ (oSome a) σ (some k) := by
  obtain ⟨y, g1, g2, _⟩ := h
  unfold EvO oSome
  rw [g1, bind_ret, g2]
theorem ev_slG {a : SemE} {lo hi : SemO} {T : List Nat} {xs : List PyData} {l h : Option Int} (ha : Ev Γ a σ (.list xs) T) (hl : EvO Γ lo σ l) (hh : EvO Γ hi σ h) : Ev Γ (eSl a lo hi) σ (.list (cutD xs l h)) T := by
  obtain ⟨x, h1, h2, h3⟩ := ha
  refine ⟨fin (.list (cutD xs l h)) x.t (subF x (.list (cutD xs l h))), ?_, fin_v _ _ _, fun t ht => h3 t (fin_t _ _ _ t ht)⟩
  unfold eSl
  unfold EvO at hl hh
  rw [h1, bind_ret, hl, bind_ret, hh, bind_ret]
  unfold slK
  rw [h2]
theorem cutD_mem {xs : List PyData} {l h : Option Int} {x : PyData} (hx : x ∈ cutD xs l h) : x ∈ xs := List.mem_of_mem_drop (List.mem_of_mem_take hx)
theorem cutD_len (xs : List PyData) (l h : Option Int) : (cutD xs l h).length ≤ xs.length := by
  unfold cutD
  rw [List.length_take, List.length_drop]
  omega
theorem ev_neg {a : SemE} {T : List Nat} {k : Int} (h : Ev Γ a σ (.int k) T) : Ev Γ (eUn oNeg a) σ (.int (-k)) [] := ev_un h rfl
theorem sp_kept_state {iV : Nat} {nt : NetT} {d r : PyData} (h : ∃ f, Γ iV [.dat (.int nt.length), .dat d] = .ret (.dat r, f)) : ∃ f, callS (S_kept_state iV) 2 2 Γ [.dat (keptN nt), .dat d] = .ret (.dat r, f) := by
  obtain ⟨fV, hV⟩ := h
  have w : Wp 0 (callS (S_kept_state iV) 2 2 Γ [.dat (keptN nt), .dat d]) fun z => ∃ e f, z = (.dat e, f) ∧ e = r := by
    refine Wp.callRT rfl ?_
    have s0 : St (startN 2 [.dat (keptN nt), .dat d]) [some (.dat (keptN nt)), some (.dat d)] [] := st_start rfl
    have e := ev_len (s0.v.ev (Γ := Γ) (i := 0) (d := keptN nt) rfl) (.inr rfl)
    rw [List.length_map] at e
    exact q_ret ((ev_call (eva_cons e (eva_cons (s0.v.ev (i := 1) rfl) eva_nil)) hV).dr rfl)
  obtain ⟨z, h, e, f, rfl, rfl⟩ := w.det0
  exact ⟨f, h⟩
theorem oIsN_tI (s : List Int) : oIsN (tI s) .none = some (.bool false) := rfl
theorem sp_need_state {iK : Nat} {d sd : PyData} {s : List Int} (h : ∃ f, Γ iK [.dat d, .dat sd] = .ret (.dat (tI s), f)) : ∃ f, callS (S_need_state iK) 2 3 Γ [.dat d, .dat sd] = .ret (.dat (tI s), f) := by
  obtain ⟨fV, hV⟩ := h
  have w : Wp 0 (callS (S_need_state iK) 2 3 Γ [.dat d, .dat sd]) fun z => ∃ e f, z = (.dat e, f) ∧ e = tI s := by
    refine Wp.callRT rfl ?_
    have s0 : St (startN 3 [.dat d, .dat sd]) [some (.dat d), some (.dat sd), none] [] := st_start rfl
    refine q_set0 (i := 2) s0 (ev_call (eva_cons (s0.v.ev (i := 0) rfl) (eva_cons (s0.v.ev (i := 1) rfl) eva_nil)) hV) rfl fun σ2 s2 => ?_
    refine q_iff (ev_tval (ev_op (s2.v.ev (i := 2) rfl) (ev_c .none) (oIsN_tI s))) ?_
    exact q_retv s2.v (i := 2) rfl rfl
  obtain ⟨z, h, e, f, rfl, rfl⟩ := w.det0
  exact ⟨f, h⟩
theorem need_goal_eq (iK : Nat) : S_need_goal iK = S_need_state iK := rfl
/-- a state kept, whatever way it is written -/
theorem stOf_of {d : PyData} {s : List Int} {m : Nat} (h : Sq d (iL s)) (hl : s.length = m) (hb : Bits s) : stOf m d = some s := by
  have go : ∀ s : List Int, Bits s → bitsD (iL s) = some s := by
    intro s
    induction s with
    | nil => intro _; rfl
    | cons a r ih =>
      intro hb
      have h0 := hb a List.mem_cons_self
      have e : bitsD (iL (a :: r)) = if 0 ≤ a ∧ a < 2 then (bitsD (iL r)).map (a :: ·) else none := rfl
      rw [e, if_pos (by omega), ih fun x hx => hb x (List.mem_cons_of_mem _ hx)]
      rfl
  have ll : (iL s).length = m := by rw [List.length_map]; exact hl
  have e : (if (iL s).length = m then bitsD (iL s) else none) = some s := by rw [if_pos ll, go s hb]
  rcases h with rfl | rfl
  · exact e
  · exact e
/-- bent things at each depth -/
theorem lv_bent {G : Nat → FEnv} {iD iP iB L : Nat} {odds : List PyData} (hG : ∀ n xs, G (n + 1) iB xs = callS (S__law_e_bent iD iP iB) 3 7 (G n) xs) (hd : ∀ n xs, G (n + 1) iD xs = DD.drawM xs) (hp : ∀ n, ∀ xs : List PyData, 0 < xs.length → xs.length < 1000000 → Wp 1 (G (n + 2) iP [.strm, .dat (.list xs)]) fun z => ∃ d f, z = (.dat d, f) ∧ d ∈ xs)
    (h0 : 0 < odds.length) (h1 : odds.length < 1000000) (hL : L < 1000000) (ho : ∀ o ∈ odds, Bt L 1 o) : ∀ (m n : Nat) {d : PyData} {L0 : Nat}, L0 + 1 ≤ L → Bt L0 m d → Wp (5 * (m + 1)) (G (n + m + 3) iB [.strm, .dat d, .dat (.list odds)]) fun z => ∃ d f, z = (.dat d, f) ∧ Bt L (m + 1) d := by
  intro m
  induction m with
  | zero =>
    intro n d L0 hl hb
    rw [hG]
    refine sp_bent (n := 0) (c := 0) (hd (n + 1)) (hp n) h0 h1 hL ho fun xs hs => ?_
    obtain ⟨_, m, e, _⟩ := hb.seq hs
    cases e
  | succ m ih =>
    intro n d L0 hl hb
    rw [show n + (m + 1) + 3 = n + m + 3 + 1 by omega, hG]
    refine (sp_bent (n := m + 1) (c := 5 * (m + 1)) (hd (n + m + 2)) (hp (n + m + 1)) h0 h1 hL (fun o h => (ho o h).le (by omega)) fun xs hs => ?_).le (by omega)
    obtain ⟨q1, m', e, q2⟩ := hb.seq hs
    have : m' = m := by omega
    subst this
    exact ⟨by omega, fun x hx => ((q2 x hx).wide (by omega)).up, fun x hx => ih n hl (q2 x hx)⟩
end DD
set_option Elab.async false
set_option linter.all false
set_option maxRecDepth 100000
set_option maxHeartbeats 4000000
/-! P36: small facts for loose things. -/
namespace DD
open PySem
theorem ev_lastP {Γ : FEnv} {σ : SD} {a b : SemE} {T T' : List Nat} {xs : List PyData} {x : PyData} (h : Ev Γ a σ (.list xs) T) (h' : Ev Γ b σ (.int (-1)) T') (hx : xs.getLast? = some x) (hp : pur x = true) : Ev Γ (eIx a b) σ x [] := by
  obtain ⟨r, h1, h2, h3⟩ := ev_last h h' hx
  have hne : 0 < xs.length := by
    cases xs with
    | nil => cases hx
    | cons _ _ => simp
  have ha : atD xs (-1) = some x := by
    unfold atD ixD
    rw [if_neg (by decide), if_pos (by omega)]
    show xs[(-1 + (xs.length : Int)).toNat]? = some x
    rw [← hx, List.getLast?_eq_getElem?]
    congr 1
    omega
  obtain ⟨y, y1, y2, _⟩ := h
  obtain ⟨z, z1, z2, _⟩ := h'
  refine ⟨rP x, ?_, rfl, fun _ z => z⟩
  unfold eIx eBin
  rw [y1, bind_ret, z1, bind_ret]
  unfold ixK
  rw [y2, z2]
  show partO y (atD xs (-1)) = _
  rw [ha]
  show M.ret (part y x) = _
  unfold part
  rw [fin_pur hp]
theorem St.toV {σ : SD} {vs : List (Option Vl)} {O : List Nat} (h : St σ vs O) : St σ vs [] := h.sub fun _ z => by cases z
theorem all2_eq {xs ys : List PyData} (h : All2 (fun x y => y = x) xs ys) : ys = xs := by
  induction h with
  | nil => rfl
  | cons e _ ih => rw [e, ih]
theorem lI_inj {a b : List Int} (e : lI a = lI b) : a = b := by
  unfold lI at e
  injection e with e
  exact (List.map_inj_right (fun x y e => by injection e)).mp e
theorem wf_small {nt : NetT} (wf : WfN nt) : ∀ m ∈ nt, m.1.length ≤ 16777216 ∧ m.2.length ≤ 16777216 := fun m hm => by
  obtain ⟨k1, k2, k3⟩ := wf.2.2 m hm
  have l1 : m.1.length ≤ 4 := k1.1
  exact ⟨by omega, by rw [k2]; exact Nat.le_trans (Nat.pow_le_pow_right (n := 2) (i := m.1.length) (j := 4) (by decide) l1) (by decide)⟩
theorem all2_pairs : ∀ {nt : NetT} {ys : List PyData}, All2 (fun x y => ∃ m, x = lP m ∧ PairD y m) (nt.map lP) ys → All2 PairD ys nt := by
  intro nt
  induction nt with
  | nil => intro ys h; cases h; exact .nil
  | cons m nt ih =>
    intro ys h
    cases h with
    | cons p r =>
      obtain ⟨m', e, q⟩ := p
      unfold lP at e
      injection e with e
      injection e with e1 e2
      injection e2 with e2
      have : m = m' := Prod.ext (lI_inj e1) (lI_inj e2)
      subst this
      exact .cons q (ih r)
theorem lN_ne {nt : NetT} {a : List Int} (wf : WfN nt) (e : lN nt = lI a) : False := by
  have h0 := wf.1
  cases nt with
  | nil => exact h0 rfl
  | cons m r =>
    unfold lN lI at e
    injection e with e
    cases a with
    | nil => cases e
    | cons x t =>
      injection e with e _
      unfold lP at e
      cases e
theorem netD_len {d : PyData} {nt : NetT} (h : NetD d nt) : ∃ ps, Sq d ps ∧ ps.length = nt.length := by
  obtain ⟨ps, h1, h2⟩ := h
  have go : ∀ {ps : List PyData} {nt : NetT}, All2 PairD ps nt → ps.length = nt.length := by
    intro ps nt h
    induction h with
    | nil => rfl
    | cons _ _ ih => rw [List.length_cons, List.length_cons, ih]
  exact ⟨ps, h1, go h2⟩
end DD
set_option Elab.async false
set_option linter.all false
set_option maxRecDepth 100000
set_option maxHeartbeats 0
namespace T23
open PySem PySem.Spec PyProof.Rows L2 RZ DD
def body : List Stmt := PySem.Challenge.pw_switchrests_k23_any_way_or_trap_judged.main.body
def defD? : Stmt → Option He.DefD
  | .FunctionDef n a b _ _ _ sc _ _ _ => some ⟨(n, none), n, n, a, b, sc, [], []⟩
  | _ => none
def fn : List He.DefD := body.filterMap defD?
def XR0 : XRel := fun _ _ _ _ => False
abbrev G0 (n : Nat) : FEnv := gam XR0 fn 22 none n
abbrev i_is_list : Nat := 0
abbrev i_is_whole : Nat := 1
abbrev i_is_number : Nat := 2
abbrev i_is_below : Nat := 3
abbrev i_is_row : Nat := 4
abbrev i_is_ascending : Nat := 5
abbrev i_kept_values : Nat := 6
abbrev i_kept_heeds : Nat := 7
abbrev i_kept_net : Nat := 8
abbrev i_need_net : Nat := 9
abbrev i_kept_state : Nat := 10
abbrev i_need_state : Nat := 11
abbrev i_number_of : Nat := 12
abbrev i_value_at : Nat := 13
abbrev i_next_by : Nat := 14
abbrev i_restless_by : Nat := 15
abbrev i_flipped : Nat := 16
abbrev i_goes_by : Nat := 17
abbrev i_need_goal : Nat := 18
abbrev i_is_way : Nat := 19
abbrev i_is_trap : Nat := 20
abbrev i__law_stream : Nat := 21
abbrev i__law_draw : Nat := 22
abbrev i__law_pick : Nat := 23
abbrev i__law_mixed : Nat := 24
abbrev i__law_same : Nat := 25
abbrev i__law_copied : Nat := 26
abbrev i__law_loose : Nat := 27
abbrev i__law_unlike : Nat := 28
abbrev i__law_is_number : Nat := 29
abbrev i__law_e_bent : Nat := 30
abbrev i__law_e_states : Nat := 31
abbrev i__law_e_net : Nat := 32
abbrev i__law_e_at : Nat := 33
abbrev i__law_e_step : Nat := 34
abbrev i__law_e_restless : Nat := 35
abbrev i__law_e_flipped : Nat := 36
abbrev i__law_e_reached : Nat := 37
abbrev i__law_is_way : Nat := 38
abbrev i__law_is_trap : Nat := 39
abbrev i_law : Nat := 40
theorem g_is_list (n : Nat) (xs : List Vl) : G0 (n + 1) i_is_list xs = callS (S_is_list) 1 1 (G0 n) xs := by kernel_rfl
theorem g_is_whole (n : Nat) (xs : List Vl) : G0 (n + 1) i_is_whole xs = callS (S_is_whole) 1 1 (G0 n) xs := by kernel_rfl
theorem g_is_number (n : Nat) (xs : List Vl) : G0 (n + 1) i_is_number xs = callS (S_is_number i_is_whole) 1 1 (G0 n) xs := by kernel_rfl
theorem g_is_below (n : Nat) (xs : List Vl) : G0 (n + 1) i_is_below xs = callS (S_is_below i_is_number) 2 2 (G0 n) xs := by kernel_rfl
theorem g_is_row (n : Nat) (xs : List Vl) : G0 (n + 1) i_is_row xs = callS (S_is_row i_is_list) 2 2 (G0 n) xs := by kernel_rfl
theorem g_is_ascending (n : Nat) (xs : List Vl) : G0 (n + 1) i_is_ascending xs = callS (S_is_ascending) 1 3 (G0 n) xs := by kernel_rfl
theorem g_kept_values (n : Nat) (xs : List Vl) : G0 (n + 1) i_kept_values xs = callS (S_kept_values i_is_row i_is_below) 2 3 (G0 n) xs := by kernel_rfl
theorem g_kept_heeds (n : Nat) (xs : List Vl) : G0 (n + 1) i_kept_heeds xs = callS (S_kept_heeds i_is_list i_is_below i_is_ascending) 3 4 (G0 n) xs := by kernel_rfl
theorem g_kept_net (n : Nat) (xs : List Vl) : G0 (n + 1) i_kept_net xs = callS (S_kept_net i_is_list i_is_row i_kept_heeds i_kept_values) 1 5 (G0 n) xs := by kernel_rfl
theorem g_need_net (n : Nat) (xs : List Vl) : G0 (n + 1) i_need_net xs = callS (S_need_net i_kept_net) 1 2 (G0 n) xs := by kernel_rfl
theorem g_kept_state (n : Nat) (xs : List Vl) : G0 (n + 1) i_kept_state xs = callS (S_kept_state i_kept_values) 2 2 (G0 n) xs := by kernel_rfl
theorem g_need_state (n : Nat) (xs : List Vl) : G0 (n + 1) i_need_state xs = callS (S_need_state i_kept_state) 2 3 (G0 n) xs := by kernel_rfl
theorem g_number_of (n : Nat) (xs : List Vl) : G0 (n + 1) i_number_of xs = callS (S_number_of) 1 3 (G0 n) xs := by kernel_rfl
theorem g_value_at (n : Nat) (xs : List Vl) : G0 (n + 1) i_value_at xs = callS (S_value_at i_number_of) 3 6 (G0 n) xs := by kernel_rfl
theorem g_next_by (n : Nat) (xs : List Vl) : G0 (n + 1) i_next_by xs = callS (S_next_by i_value_at) 2 3 (G0 n) xs := by kernel_rfl
theorem g_restless_by (n : Nat) (xs : List Vl) : G0 (n + 1) i_restless_by xs = callS (S_restless_by i_next_by) 2 4 (G0 n) xs := by kernel_rfl
theorem g_flipped (n : Nat) (xs : List Vl) : G0 (n + 1) i_flipped xs = callS (S_flipped) 2 4 (G0 n) xs := by kernel_rfl
theorem g_goes_by (n : Nat) (xs : List Vl) : G0 (n + 1) i_goes_by xs = callS (S_goes_by i_restless_by i_flipped) 2 3 (G0 n) xs := by kernel_rfl
theorem g_need_goal (n : Nat) (xs : List Vl) : G0 (n + 1) i_need_goal xs = callS (S_need_goal i_kept_state) 2 3 (G0 n) xs := by kernel_rfl
theorem g_is_way (n : Nat) (xs : List Vl) : G0 (n + 1) i_is_way xs = callS (S_is_way i_need_net i_need_state i_need_goal i_is_list i_is_below i_restless_by i_flipped) 4 8 (G0 n) xs := by kernel_rfl
theorem g_is_trap (n : Nat) (xs : List Vl) : G0 (n + 1) i_is_trap xs = callS (S_is_trap i_need_net i_need_state i_need_goal i_is_list i_kept_state i_is_ascending i_goes_by) 4 11 (G0 n) xs := by kernel_rfl
theorem g__law_draw (n : Nat) (xs : List Vl) : G0 (n + 1) i__law_draw xs = drawM xs := by kernel_rfl
theorem g__law_pick (n : Nat) (xs : List Vl) : G0 (n + 1) i__law_pick xs = callS (S__law_pick i__law_draw) 2 2 (G0 n) xs := by kernel_rfl
theorem g__law_mixed (n : Nat) (xs : List Vl) : G0 (n + 1) i__law_mixed xs = callS (S__law_mixed i__law_draw) 2 5 (G0 n) xs := by kernel_rfl
theorem g__law_same (n : Nat) (xs : List Vl) : G0 (n + 1) i__law_same xs = callS (S__law_same i__law_same) 2 4 (G0 n) xs := by kernel_rfl
theorem g__law_copied (n : Nat) (xs : List Vl) : G0 (n + 1) i__law_copied xs = callS (S__law_copied i__law_copied) 1 4 (G0 n) xs := by kernel_rfl
theorem g__law_loose (n : Nat) (xs : List Vl) : G0 (n + 1) i__law_loose xs = callS (S__law_loose i__law_loose i__law_draw) 2 4 (G0 n) xs := by kernel_rfl
theorem g__law_unlike (n : Nat) (xs : List Vl) : G0 (n + 1) i__law_unlike xs = callS (S__law_unlike) 1 3 (G0 n) xs := by kernel_rfl
theorem g__law_is_number (n : Nat) (xs : List Vl) : G0 (n + 1) i__law_is_number xs = callS (S__law_is_number) 2 2 (G0 n) xs := by kernel_rfl
theorem g__law_e_bent (n : Nat) (xs : List Vl) : G0 (n + 1) i__law_e_bent xs = callS (S__law_e_bent i__law_draw i__law_pick i__law_e_bent) 3 7 (G0 n) xs := by kernel_rfl
theorem g__law_e_states (n : Nat) (xs : List Vl) : G0 (n + 1) i__law_e_states xs = callS (S__law_e_states) 1 5 (G0 n) xs := by kernel_rfl
theorem g__law_e_net (n : Nat) (xs : List Vl) : G0 (n + 1) i__law_e_net xs = callS (S__law_e_net i__law_draw i__law_mixed i__law_e_states i__law_pick) 2 10 (G0 n) xs := by kernel_rfl
theorem g__law_e_at (n : Nat) (xs : List Vl) : G0 (n + 1) i__law_e_at xs = callS (S__law_e_at) 2 4 (G0 n) xs := by kernel_rfl
theorem g__law_e_step (n : Nat) (xs : List Vl) : G0 (n + 1) i__law_e_step xs = callS (S__law_e_step i__law_e_at) 2 3 (G0 n) xs := by kernel_rfl
theorem g__law_e_restless (n : Nat) (xs : List Vl) : G0 (n + 1) i__law_e_restless xs = callS (S__law_e_restless i__law_e_step) 2 4 (G0 n) xs := by kernel_rfl
theorem g__law_e_flipped (n : Nat) (xs : List Vl) : G0 (n + 1) i__law_e_flipped xs = callS (S__law_e_flipped) 2 2 (G0 n) xs := by kernel_rfl
theorem g__law_e_reached (n : Nat) (xs : List Vl) : G0 (n + 1) i__law_e_reached xs = callS (S__law_e_reached i__law_e_restless i__law_e_flipped) 2 6 (G0 n) xs := by kernel_rfl
theorem g__law_is_way (n : Nat) (xs : List Vl) : G0 (n + 1) i__law_is_way xs = callS (S__law_is_way i__law_is_number i__law_e_restless i__law_e_flipped) 4 6 (G0 n) xs := by kernel_rfl
theorem g__law_is_trap (n : Nat) (xs : List Vl) : G0 (n + 1) i__law_is_trap xs = callS (S__law_is_trap i__law_is_number i__law_unlike i__law_e_restless i__law_e_flipped) 4 8 (G0 n) xs := by kernel_rfl
/-- what the levels are made of -/
structure FL (G : Nat → FEnv) : Prop where
  q_is_list : ∀ (n : Nat) (xs : List Vl), G (n + 1) i_is_list xs = callS (S_is_list) 1 1 (G n) xs
  q_is_whole : ∀ (n : Nat) (xs : List Vl), G (n + 1) i_is_whole xs = callS (S_is_whole) 1 1 (G n) xs
  q_is_number : ∀ (n : Nat) (xs : List Vl), G (n + 1) i_is_number xs = callS (S_is_number i_is_whole) 1 1 (G n) xs
  q_is_below : ∀ (n : Nat) (xs : List Vl), G (n + 1) i_is_below xs = callS (S_is_below i_is_number) 2 2 (G n) xs
  q_is_row : ∀ (n : Nat) (xs : List Vl), G (n + 1) i_is_row xs = callS (S_is_row i_is_list) 2 2 (G n) xs
  q_is_ascending : ∀ (n : Nat) (xs : List Vl), G (n + 1) i_is_ascending xs = callS (S_is_ascending) 1 3 (G n) xs
  q_kept_values : ∀ (n : Nat) (xs : List Vl), G (n + 1) i_kept_values xs = callS (S_kept_values i_is_row i_is_below) 2 3 (G n) xs
  q_kept_heeds : ∀ (n : Nat) (xs : List Vl), G (n + 1) i_kept_heeds xs = callS (S_kept_heeds i_is_list i_is_below i_is_ascending) 3 4 (G n) xs
  q_kept_net : ∀ (n : Nat) (xs : List Vl), G (n + 1) i_kept_net xs = callS (S_kept_net i_is_list i_is_row i_kept_heeds i_kept_values) 1 5 (G n) xs
  q_need_net : ∀ (n : Nat) (xs : List Vl), G (n + 1) i_need_net xs = callS (S_need_net i_kept_net) 1 2 (G n) xs
  q_kept_state : ∀ (n : Nat) (xs : List Vl), G (n + 1) i_kept_state xs = callS (S_kept_state i_kept_values) 2 2 (G n) xs
  q_need_state : ∀ (n : Nat) (xs : List Vl), G (n + 1) i_need_state xs = callS (S_need_state i_kept_state) 2 3 (G n) xs
  q_number_of : ∀ (n : Nat) (xs : List Vl), G (n + 1) i_number_of xs = callS (S_number_of) 1 3 (G n) xs
  q_value_at : ∀ (n : Nat) (xs : List Vl), G (n + 1) i_value_at xs = callS (S_value_at i_number_of) 3 6 (G n) xs
  q_next_by : ∀ (n : Nat) (xs : List Vl), G (n + 1) i_next_by xs = callS (S_next_by i_value_at) 2 3 (G n) xs
  q_restless_by : ∀ (n : Nat) (xs : List Vl), G (n + 1) i_restless_by xs = callS (S_restless_by i_next_by) 2 4 (G n) xs
  q_flipped : ∀ (n : Nat) (xs : List Vl), G (n + 1) i_flipped xs = callS (S_flipped) 2 4 (G n) xs
  q_goes_by : ∀ (n : Nat) (xs : List Vl), G (n + 1) i_goes_by xs = callS (S_goes_by i_restless_by i_flipped) 2 3 (G n) xs
  q_need_goal : ∀ (n : Nat) (xs : List Vl), G (n + 1) i_need_goal xs = callS (S_need_goal i_kept_state) 2 3 (G n) xs
  q_is_way : ∀ (n : Nat) (xs : List Vl), G (n + 1) i_is_way xs = callS (S_is_way i_need_net i_need_state i_need_goal i_is_list i_is_below i_restless_by i_flipped) 4 8 (G n) xs
  q_is_trap : ∀ (n : Nat) (xs : List Vl), G (n + 1) i_is_trap xs = callS (S_is_trap i_need_net i_need_state i_need_goal i_is_list i_kept_state i_is_ascending i_goes_by) 4 11 (G n) xs
  q__law_draw : ∀ (n : Nat) (xs : List Vl), G (n + 1) i__law_draw xs = drawM xs
  q__law_pick : ∀ (n : Nat) (xs : List Vl), G (n + 1) i__law_pick xs = callS (S__law_pick i__law_draw) 2 2 (G n) xs
  q__law_mixed : ∀ (n : Nat) (xs : List Vl), G (n + 1) i__law_mixed xs = callS (S__law_mixed i__law_draw) 2 5 (G n) xs
  q__law_same : ∀ (n : Nat) (xs : List Vl), G (n + 1) i__law_same xs = callS (S__law_same i__law_same) 2 4 (G n) xs
  q__law_copied : ∀ (n : Nat) (xs : List Vl), G (n + 1) i__law_copied xs = callS (S__law_copied i__law_copied) 1 4 (G n) xs
  q__law_loose : ∀ (n : Nat) (xs : List Vl), G (n + 1) i__law_loose xs = callS (S__law_loose i__law_loose i__law_draw) 2 4 (G n) xs
  q__law_unlike : ∀ (n : Nat) (xs : List Vl), G (n + 1) i__law_unlike xs = callS (S__law_unlike) 1 3 (G n) xs
  q__law_is_number : ∀ (n : Nat) (xs : List Vl), G (n + 1) i__law_is_number xs = callS (S__law_is_number) 2 2 (G n) xs
  q__law_e_bent : ∀ (n : Nat) (xs : List Vl), G (n + 1) i__law_e_bent xs = callS (S__law_e_bent i__law_draw i__law_pick i__law_e_bent) 3 7 (G n) xs
  q__law_e_states : ∀ (n : Nat) (xs : List Vl), G (n + 1) i__law_e_states xs = callS (S__law_e_states) 1 5 (G n) xs
  q__law_e_net : ∀ (n : Nat) (xs : List Vl), G (n + 1) i__law_e_net xs = callS (S__law_e_net i__law_draw i__law_mixed i__law_e_states i__law_pick) 2 10 (G n) xs
  q__law_e_at : ∀ (n : Nat) (xs : List Vl), G (n + 1) i__law_e_at xs = callS (S__law_e_at) 2 4 (G n) xs
  q__law_e_step : ∀ (n : Nat) (xs : List Vl), G (n + 1) i__law_e_step xs = callS (S__law_e_step i__law_e_at) 2 3 (G n) xs
  q__law_e_restless : ∀ (n : Nat) (xs : List Vl), G (n + 1) i__law_e_restless xs = callS (S__law_e_restless i__law_e_step) 2 4 (G n) xs
  q__law_e_flipped : ∀ (n : Nat) (xs : List Vl), G (n + 1) i__law_e_flipped xs = callS (S__law_e_flipped) 2 2 (G n) xs
  q__law_e_reached : ∀ (n : Nat) (xs : List Vl), G (n + 1) i__law_e_reached xs = callS (S__law_e_reached i__law_e_restless i__law_e_flipped) 2 6 (G n) xs
  q__law_is_way : ∀ (n : Nat) (xs : List Vl), G (n + 1) i__law_is_way xs = callS (S__law_is_way i__law_is_number i__law_e_restless i__law_e_flipped) 4 6 (G n) xs
  q__law_is_trap : ∀ (n : Nat) (xs : List Vl), G (n + 1) i__law_is_trap xs = callS (S__law_is_trap i__law_is_number i__law_unlike i__law_e_restless i__law_e_flipped) 4 8 (G n) xs
theorem fl : FL G0 := ⟨g_is_list, g_is_whole, g_is_number, g_is_below, g_is_row, g_is_ascending, g_kept_values, g_kept_heeds, g_kept_net, g_need_net, g_kept_state, g_need_state, g_number_of, g_value_at, g_next_by, g_restless_by, g_flipped, g_goes_by, g_need_goal, g_is_way, g_is_trap, g__law_draw, g__law_pick, g__law_mixed, g__law_same, g__law_copied, g__law_loose, g__law_unlike, g__law_is_number, g__law_e_bent, g__law_e_states, g__law_e_net, g__law_e_at, g__law_e_step, g__law_e_restless, g__law_e_flipped, g__law_e_reached, g__law_is_way, g__law_is_trap⟩
section
variable {G : Nat → FEnv}
theorem k_draw (F : FL G) (n : Nat) (xs : List Vl) : G (n + 1) i__law_draw xs = drawM xs := F.q__law_draw n xs
theorem k_is_list (F : FL G) (n : Nat) (d : PyData) : G (n + 1) i_is_list [.dat d] = .ret (.dat (.bool (isL d)), .all) := by rw [F.q_is_list]; exact sp_is_list d
theorem k_is_whole (F : FL G) (n : Nat) (d : PyData) : G (n + 1) i_is_whole [.dat d] = .ret (.dat (.bool (isWholeD d)), .all) := by rw [F.q_is_whole]; exact sp_is_whole d
theorem k_is_number (F : FL G) (n : Nat) (d : PyData) : G (n + 2) i_is_number [.dat d] = .ret (.dat (.bool (isNumD d)), .all) := by rw [F.q_is_number]; exact sp_is_number (k_is_whole F n) d
theorem k_is_below (F : FL G) (n : Nat) (d : PyData) (m : Int) : G (n + 3) i_is_below [.dat d, .dat (.int m)] = .ret (.dat (.bool (isBelowD m d)), .all) := by rw [F.q_is_below]; exact sp_is_below (k_is_number F n) d m
theorem k_is_row (F : FL G) (n : Nat) (d : PyData) (m : Int) : G (n + 2) i_is_row [.dat d, .dat (.int m)] = .ret (.dat (.bool (isRowD m d)), .all) := by rw [F.q_is_row]; exact sp_is_row (k_is_list F n) d m
theorem k_is_ascending (F : FL G) (n : Nat) (d : PyData) (ns : List Int) (hs : Sq d (iL ns)) (hl : ns.length ≤ 16777216) : G (n + 1) i_is_ascending [.dat d] = .ret (.dat (.bool (ascD ns)), .all) := by rw [F.q_is_ascending]; exact sp_is_ascending hs hl
theorem k_asc_states (F : FL G) (n : Nat) (L : List (List Int)) (hl : L.length ≤ 16777216) : ∃ f, G (n + 1) i_is_ascending [.dat (.list (L.map tI))] = .ret (.dat (.bool (ascL L)), f) := by rw [F.q_is_ascending]; exact sp_asc_states L hl
theorem k_number_of (F : FL G) (n : Nat) (d : PyData) (bs : List Int) (hs : Sq d (iL bs)) : G (n + 1) i_number_of [.dat d] = .ret (.dat (.int (numD bs)), .all) := by rw [F.q_number_of]; exact sp_number_of hs
theorem k_value_at (F : FL G) (n : Nat) {nt : NetT} {s : List Int} {k : Nat} {m : List Int × List Int} (hk : nt[k]? = some m) (ok : StepOk m s) : G (n + 2) i_value_at [.dat (keptN nt), .dat (tI s), .dat (.int k)] = .ret (.dat (.int (valD m s)), .all) := by
  rw [F.q_value_at]; exact sp_value_at (k_number_of F n) hk ok
theorem k_next_by (F : FL G) (n : Nat) {nt : NetT} {s : List Int} (hl : nt.length ≤ 1000) (ok : ∀ m ∈ nt, StepOk m s) : G (n + 3) i_next_by [.dat (keptN nt), .dat (tI s)] = .ret (.dat (tI (stepN nt s)), .all) := by
  rw [F.q_next_by]
  exact sp_next_by hl fun k m hk => k_value_at F n hk (ok m (List.mem_of_getElem? hk))
theorem k_kept_values (F : FL G) (n : Nat) (d : PyData) (ns : List Int) (m : Int) (hs : Sq d (iL ns)) (hl : ns.length ≤ 16777216) : G (n + 4) i_kept_values [.dat (.int m), .dat d] = .ret (.dat (if (ns.length : Int) = m ∧ (ns.all fun n => decide (0 ≤ n) && decide (n < 2)) = true then .tuple (iL ns) else .none), .all) := by
  rw [F.q_kept_values]; exact sp_kept_values (k_is_row F (n + 1)) (k_is_below F n) hs m hl
theorem k_kept_any (F : FL G) (n : Nat) (d : PyData) (m : Nat) (hm : m ≤ 1000) : ∃ f, G (n + 4) i_kept_values [.dat (.int m), .dat d] = .ret (.dat (optI (stOf m d)), f) := by
  rw [F.q_kept_values]; exact sp_kept_values_any (k_is_row F (n + 1)) (k_is_below F n) d m hm
theorem k_kept_heeds (F : FL G) (n : Nat) (d : PyData) (hs : List Int) (m : Int) (most : Nat) (h : Sq d (iL hs)) (ok : okH m most hs) (hm : most ≤ 16777216) : G (n + 4) i_kept_heeds [.dat (.int m), .dat d, .dat (.int most)] = .ret (.dat (.tuple (iL hs)), .all) := by
  rw [F.q_kept_heeds]; exact sp_kept_heeds (k_is_list F (n + 2)) (k_is_below F n) (k_is_ascending F (n + 2)) h ok hm
theorem k_kept_net (F : FL G) (n : Nat) {d : PyData} {nt : NetT} (hd : NetD d nt) (wf : WfN nt) : G (n + 5) i_kept_net [.dat d] = .ret (.dat (keptN nt), .all) := by
  rw [F.q_kept_net]; exact sp_kept_net (k_is_list F (n + 3)) (k_is_row F (n + 2)) (k_kept_heeds F n) (k_kept_values F n) hd wf
theorem k_need_net (F : FL G) (n : Nat) {d : PyData} {nt : NetT} (hd : NetD d nt) (wf : WfN nt) : G (n + 6) i_need_net [.dat d] = .ret (.dat (keptN nt), .all) := by
  rw [F.q_need_net]; exact sp_need_net (k_kept_net F n hd wf)
theorem k_kept_state (F : FL G) (n : Nat) (nt : NetT) (d : PyData) (hm : nt.length ≤ 1000) : ∃ f, G (n + 5) i_kept_state [.dat (keptN nt), .dat d] = .ret (.dat (optI (stOf nt.length d)), f) := by
  rw [F.q_kept_state]; exact sp_kept_state (k_kept_any F n d nt.length hm)
theorem k_kept_st (F : FL G) (n : Nat) {nt : NetT} {d : PyData} {s : List Int} (hm : nt.length ≤ 1000) (hd : Sq d (iL s)) (hs : s ∈ stT nt) : ∃ f, G (n + 5) i_kept_state [.dat (keptN nt), .dat d] = .ret (.dat (tI s), f) := by
  obtain ⟨f, h⟩ := k_kept_state F n nt d hm
  rw [stOf_of hd (stD_mem.mp hs).1 (stD_mem.mp hs).2] at h
  exact ⟨f, h⟩
theorem k_need_state (F : FL G) (n : Nat) {nt : NetT} {d : PyData} {s : List Int} (hm : nt.length ≤ 1000) (hd : Sq d (iL s)) (hs : s ∈ stT nt) : ∃ f, G (n + 6) i_need_state [.dat (keptN nt), .dat d] = .ret (.dat (tI s), f) := by
  rw [F.q_need_state]; exact sp_need_state (k_kept_st F n hm hd hs)
theorem k_need_goal (F : FL G) (n : Nat) {nt : NetT} {d : PyData} {s : List Int} (hm : nt.length ≤ 1000) (hd : Sq d (iL s)) (hs : s ∈ stT nt) : ∃ f, G (n + 6) i_need_goal [.dat (keptN nt), .dat d] = .ret (.dat (tI s), f) := by
  rw [F.q_need_goal, need_goal_eq]; exact sp_need_state (k_kept_st F n hm hd hs)
theorem k_restless_by (F : FL G) (n : Nat) {nt : NetT} {s : List Int} (wf : WfN nt) (hl : nt.length ≤ 1000) (hs : s ∈ stT nt) : ∃ f, G (n + 4) i_restless_by [.dat (keptN nt), .dat (tI s)] = .ret (.dat (lI (restN nt s)), f) := by
  rw [F.q_restless_by]; exact sp_restless (.inr rfl) (.inr rfl) (stD_mem.mp hs).1.symm hl (k_next_by F n hl fun m hm => stepOk_of wf hs hm)
theorem k_flipped (F : FL G) (n : Nat) {sd : PyData} {s : List Int} {k : Int} (hsd : Sq sd (iL s)) (hl : s.length ≤ 1000) (h0 : 0 ≤ k) (hk : k < s.length) : ∃ f, G (n + 1) i_flipped [.dat sd, .dat (.int k)] = .ret (.dat (tI (flipN s k)), f) := by
  rw [F.q_flipped]; exact sp_flipped hsd hl h0 hk
theorem k_goes_by (F : FL G) (n : Nat) {nt : NetT} {s : List Int} (wf : WfN nt) (hl : nt.length ≤ 1000) (hs : s ∈ stT nt) : ∃ f, G (n + 5) i_goes_by [.dat (keptN nt), .dat (tI s)] = .ret (.dat (.list (goN nt s)), f) := by
  rw [F.q_goes_by]
  have l := (stD_mem.mp hs).1
  exact sp_goes_by hl (k_restless_by F n wf hl hs) fun k h0 hk => k_flipped F (n + 3) (.inr rfl) (by omega) h0 (by omega)
theorem k_is_way (F : FL G) (n : Nat) {d sd gd : PyData} {nt : NetT} {s g : List Int} (hd : NetD d nt) (wf : WfN nt) (hsd : Sq sd (iL s)) (hs : s ∈ stT nt) (hgd : Sq gd (iL g)) (hg : g ∈ stT nt) (x : PyData) : ∃ f, G (n + 7) i_is_way [.dat d, .dat sd, .dat gd, .dat x] = .ret (.dat (.bool (isWayD nt s g x)), f) := by
  rw [F.q_is_way]
  have l20 := wf.2.1
  exact sp_is_way l20 hs ⟨_, k_need_net F n hd wf⟩ (k_need_state F n (by omega) hsd hs) (k_need_goal F n (by omega) hgd hg) (k_is_list F (n + 5)) (k_is_below F (n + 3)) (fun s hs => k_restless_by F (n + 2) wf (by omega) hs) fun s hs k h0 hk => by
    have l := (stD_mem.mp hs).1
    exact k_flipped F (n + 5) (.inr rfl) (by omega) h0 (by omega)
theorem k_is_trap (F : FL G) (n : Nat) {d sd gd : PyData} {nt : NetT} {s g : List Int} (hd : NetD d nt) (wf : WfN nt) (hsd : Sq sd (iL s)) (hs : s ∈ stT nt) (hgd : Sq gd (iL g)) (hg : g ∈ stT nt) (x : PyData) (hxl : ∀ xs, Sq x xs → xs.length ≤ 16777216) : ∃ f, G (n + 7) i_is_trap [.dat d, .dat sd, .dat gd, .dat x] = .ret (.dat (.bool (isTrapD nt s g x)), f) := by
  rw [F.q_is_trap]
  have l20 := wf.2.1
  exact sp_is_trap l20 hxl ⟨_, k_need_net F n hd wf⟩ (k_need_state F n (by omega) hsd hs) (k_need_goal F n (by omega) hgd hg) (k_is_list F (n + 5)) (fun d => k_kept_state F (n + 1) nt d (by omega)) (fun L hl => k_asc_states F (n + 5) L hl) fun s h1 h2 => k_goes_by F (n + 1) wf (by omega) (stD_mem.mpr ⟨h1, h2⟩)
theorem k_mixed (F : FL G) (n : Nat) (xs : List Int) (h : xs.length < 1000000) : Wp xs.length (G (n + 2) i__law_mixed [.strm, .dat (lI xs)]) fun z => ∃ d f, z = (.dat d, f) ∧ ∃ ys, d = lI ys ∧ ys.Perm xs := by
  rw [F.q__law_mixed]; exact sp_mixed (k_draw F n) (.inl rfl) h
theorem k_states (F : FL G) (n : Nat) (m : Nat) (h : m ≤ 5) : ∃ f, G (n + 1) i__law_e_states [.dat (.int m)] = .ret (.dat (.list ((stD m).map lI)), f) := by
  rw [F.q__law_e_states]; exact ⟨_, sp_law_e_states h⟩
theorem k_pick (F : FL G) (n : Nat) (xs : List PyData) (h0 : 0 < xs.length) (h1 : xs.length < 1000000) : Wp 1 (G (n + 2) i__law_pick [.strm, .dat (.list xs)]) fun z => ∃ d f, z = (.dat d, f) ∧ d ∈ xs := by
  rw [F.q__law_pick]; exact (sp_pick (k_draw F n) h0 h1).mono (Nat.le_refl _) fun z hz => by
    obtain ⟨x, f, hx, rfl⟩ := hz
    exact ⟨x, f, rfl, hx⟩
theorem k_e_net (F : FL G) (n : Nat) {most : Nat} (h0 : 0 < most) (h5 : most ≤ 5) : Wp 1000 (G (n + 3) i__law_e_net [.strm, .dat (.int most)]) fun z => ∃ d f, z = (.dat d, f) ∧ ∃ nt, d = lN nt ∧ WfN nt ∧ nt.length ≤ most := by
  rw [F.q__law_e_net]; exact sp_e_net (most := most) (k_draw F (n + 1)) (k_mixed F n) (fun m hm => k_states F (n + 1) m (by omega)) (k_pick F n) h0 (by omega)
theorem k_same (F : FL G) (n : Nat) {d : PyData} (h : NoDic n d) : G (n + 1) i__law_same [.dat d, .dat d] = .ret (.dat (.bool true), .all) := lv_same (G := G) F.q__law_same h
theorem k_copied (F : FL G) (n : Nat) {d : PyData} (h : NoDic n d) : G (n + 1) i__law_copied [.dat d] = .ret (.dat d, .all) := lv_copied (G := G) F.q__law_copied h
theorem k_at (F : FL G) (n : Nat) {p : PyData} {s : List Int} {m : List Int × List Int} (hp : PairD p m) (ok : StepOk m s) : ∃ f, G (n + 1) i__law_e_at [.dat p, .dat (lI s)] = .ret (.dat (.int (valD m s)), f) := by
  rw [F.q__law_e_at]; exact sp_law_at hp (.inl rfl) ok
theorem k_step (F : FL G) (n : Nat) {nt : NetT} {s : List Int} (hl : nt.length ≤ 16777216) (ok : ∀ m ∈ nt, StepOk m s) : G (n + 2) i__law_e_step [.dat (lN nt), .dat (lI s)] = .ret (.dat (lI (stepN nt s)), .all) := by
  rw [F.q__law_e_step]; exact own_step hl fun m hm => k_at F n (pairD_lP m) (ok m hm)
theorem k_restless (F : FL G) (n : Nat) {nt : NetT} {s : List Int} (wf : WfN nt) (hs : s ∈ stT nt) : G (n + 3) i__law_e_restless [.dat (lN nt), .dat (lI s)] = .ret (.dat (lI (restN nt s)), .all) := by
  rw [F.q__law_e_restless]
  have l20 := wf.2.1
  exact own_restless (.inl rfl) (stD_mem.mp hs).1.symm (by omega) (k_step F n (by omega) fun m hm => stepOk_of wf hs hm)
theorem k_flip (F : FL G) (n : Nat) {s : List Int} {k : Int} (hl : s.length ≤ 1000) (h0 : 0 ≤ k) (hk : k < s.length) : G (n + 1) i__law_e_flipped [.dat (lI s), .dat (.int k)] = .ret (.dat (lI (flipN s k)), .all) := by
  rw [F.q__law_e_flipped]; exact own_flipped hl h0 hk
theorem k_flipS (F : FL G) (n : Nat) {nt : NetT} {s : List Int} {k : Int} (hl : nt.length ≤ 1000) (hs : s ∈ stT nt) (h0 : 0 ≤ k) (hk : k < nt.length) : G (n + 1) i__law_e_flipped [.dat (lI s), .dat (.int k)] = .ret (.dat (lI (flipN s k)), .all) := by
  have l := (stD_mem.mp hs).1
  exact k_flip F n (by omega) h0 (by omega)
theorem k_reached (F : FL G) (n : Nat) {nt : NetT} {s : List Int} (wf : WfN nt) (hl : nt.length ≤ 5) (hs : s ∈ stT nt) : ∃ (R : List (List Int)) (f : Fr), G (n + 4) i__law_e_reached [.dat (lN nt), .dat (lI s)] = .ret (.dat (.list (R.map lI)), f) ∧ R.length ≤ 32 ∧ ∀ x ∈ R, x ∈ stT nt := by
  rw [F.q__law_e_reached]
  exact sp_reached hl hs (fun s hs => k_restless F n wf hs) fun s hs k h0 hk => k_flipS F (n + 2) (by omega) hs h0 hk
theorem k_lnum (F : FL G) (n : Nat) (d : PyData) (m : Int) : ∃ f, G (n + 1) i__law_is_number [.dat d, .dat (.int m)] = .ret (.dat (.bool (isBelowD m d)), f) := by
  rw [F.q__law_is_number]; exact sp_law_number d
theorem k_unlike (F : FL G) (n : Nat) (L : List (List Int)) (hl : L.length ≤ 16777000) : ∃ f, G (n + 1) i__law_unlike [.dat (.list (L.map lI))] = .ret (.dat (.list ((uniqL L).map lI)), f) := by
  rw [F.q__law_unlike]; exact sp_unlike L hl
theorem k_law_way (F : FL G) (n : Nat) {nt : NetT} {s : List Int} (g : List Int) (wf : WfN nt) (hs : s ∈ stT nt) (x : PyData) : ∃ f, G (n + 4) i__law_is_way [.dat (lN nt), .dat (lI s), .dat (lI g), .dat x] = .ret (.dat (.bool (isWayD nt s g x)), f) := by
  rw [F.q__law_is_way]
  have l20 := wf.2.1
  exact sp_law_is_way (.inl rfl) (List.length_map ..) l20 hs (fun x m => k_lnum F (n + 2) x m) (fun s hs => ⟨_, k_restless F n wf hs⟩) fun s hs k h0 hk => ⟨_, k_flipS F (n + 2) (by omega) hs h0 hk⟩
theorem k_law_trap (F : FL G) (n : Nat) {nt : NetT} (s g : List Int) (wf : WfN nt) (x : PyData) (hxl : ∀ xs, Sq x xs → xs.length ≤ 16777000 ∧ ∀ y ∈ xs, ∀ ys, Sq y ys → ys.length ≤ 16777000) : ∃ f, G (n + 4) i__law_is_trap [.dat (lN nt), .dat (lI s), .dat (lI g), .dat x] = .ret (.dat (.bool (isTrapD nt s g x)), f) := by
  rw [F.q__law_is_trap]
  have l20 := wf.2.1
  exact sp_law_is_trap (.inl rfl) (List.length_map ..) l20 hxl (fun x m => k_lnum F (n + 2) x m) (fun L hl => k_unlike F (n + 2) L hl) (fun s h1 h2 => ⟨_, k_restless F n wf (stD_mem.mpr ⟨h1, h2⟩)⟩) fun s h1 h2 k h0 hk => ⟨_, k_flipS F (n + 2) (by omega) (stD_mem.mpr ⟨h1, h2⟩) h0 hk⟩
theorem k_bent (F : FL G) {odds : List PyData} {L : Nat} (h0 : 0 < odds.length) (h1 : odds.length < 1000000) (hL : L < 1000000) (ho : ∀ o ∈ odds, Bt L 1 o) (m n : Nat) {d : PyData} {L0 : Nat} (hl : L0 + 1 ≤ L) (hb : Bt L0 m d) : Wp (5 * (m + 1)) (G (n + m + 3) i__law_e_bent [.strm, .dat d, .dat (.list odds)]) fun z => ∃ d f, z = (.dat d, f) ∧ Bt L (m + 1) d :=
  lv_bent (G := G) F.q__law_e_bent F.q__law_draw (fun n xs a b => k_pick F n xs a b) h0 h1 hL ho m n hl hb
theorem k_loose_int (F : FL G) (n : Nat) (a : Int) : Wp 0 (G (n + 1) i__law_loose [.strm, .dat (.int a)]) fun z => ∃ d f, z = (.dat d, f) ∧ d = .int a := by
  rw [F.q__law_loose]; exact sp_loose_int a
theorem k_loose_ints (F : FL G) (n : Nat) (a : List Int) (h : a.length ≤ 16777216) : Wp 1 (G (n + 2) i__law_loose [.strm, .dat (lI a)]) fun z => ∃ d f, z = (.dat d, f) ∧ Sq d (iL a) := by
  rw [F.q__law_loose]
  refine (sp_loose_seq (c := 0) (P := fun x y => y = x) (k_draw F n) (.inl rfl) (by rw [List.length_map]; exact h) fun x hx => ?_).mono (by omega) fun z hz => ?_
  · obtain ⟨i, _, rfl⟩ := List.mem_map.mp hx
    exact k_loose_int F n i
  · obtain ⟨d, f, rfl, ys, hs, h2⟩ := hz
    rw [all2_eq h2] at hs
    exact ⟨d, f, rfl, hs⟩
theorem k_loose_pair (F : FL G) (n : Nat) (m : List Int × List Int) (h : m.1.length ≤ 16777216 ∧ m.2.length ≤ 16777216) : Wp 3 (G (n + 3) i__law_loose [.strm, .dat (lP m)]) fun z => ∃ d f, z = (.dat d, f) ∧ PairD d m := by
  rw [F.q__law_loose]
  refine (sp_loose_seq (c := 1) (P := fun x y => ∃ a, x = lI a ∧ Sq y (iL a)) (xs := [lI m.1, lI m.2]) (k_draw F (n + 1)) (.inr rfl) (show 2 ≤ 16777216 by decide) fun x hx => ?_).mono (show 1 * 2 + 1 ≤ 3 by decide) fun z hz => ?_
  · rcases List.mem_cons.mp hx with rfl | hx
    · exact (k_loose_ints F n m.1 h.1).mono (Nat.le_refl _) fun z ⟨d, f, e, s⟩ => ⟨d, f, e, m.1, rfl, s⟩
    · rcases List.mem_cons.mp hx with rfl | hx
      · exact (k_loose_ints F n m.2 h.2).mono (Nat.le_refl _) fun z ⟨d, f, e, s⟩ => ⟨d, f, e, m.2, rfl, s⟩
      · cases hx
  · obtain ⟨d, f, rfl, ys, hs, h2⟩ := hz
    cases h2 with
    | cons p1 r =>
      cases r with
      | cons p2 r =>
        cases r
        obtain ⟨a1, e1, q1⟩ := p1
        obtain ⟨a2, e2, q2⟩ := p2
        rw [← lI_inj e1] at q1
        rw [← lI_inj e2] at q2
        exact ⟨d, f, rfl, _, _, hs, q1, q2⟩
theorem k_loose (F : FL G) (n : Nat) {nt : NetT} (wf : WfN nt) (h5 : nt.length ≤ 5) : Wp 16 (G (n + 4) i__law_loose [.strm, .dat (lN nt)]) fun z => ∃ d f, z = (.dat d, f) ∧ NetD d nt := by
  rw [F.q__law_loose]
  refine (sp_loose_seq (c := 3) (P := fun x y => ∃ m, x = lP m ∧ PairD y m) (k_draw F (n + 2)) (.inl rfl) (by rw [List.length_map]; omega) fun x hx => ?_).mono (by rw [List.length_map]; omega) fun z hz => ?_
  · obtain ⟨m, hm, rfl⟩ := List.mem_map.mp hx
    exact (k_loose_pair F n m (wf_small wf m hm)).mono (Nat.le_refl _) fun z ⟨d, f, e, s⟩ => ⟨d, f, e, m, rfl, s⟩
  · obtain ⟨d, f, rfl, ys, hs, h2⟩ := hz
    exact ⟨d, f, rfl, ys, hs, all2_pairs h2⟩
/-- a net with two states -/
theorem k_loose3 (F : FL G) (n : Nat) {nt : NetT} {s g : List Int} (wf : WfN nt) (h5 : nt.length ≤ 5) (hs : s.length ≤ 16777216) (hg : g.length ≤ 16777216) : Wp 49 (G (n + 5) i__law_loose [.strm, .dat (.list [lN nt, lI s, lI g])]) fun z => ∃ d f, z = (.dat d, f) ∧ ∃ a b c, Sq d [a, b, c] ∧ NetD a nt ∧ Sq b (iL s) ∧ Sq c (iL g) := by
  rw [F.q__law_loose]
  refine (sp_loose_seq (c := 16) (P := fun x y => (x = lN nt → NetD y nt) ∧ ∀ a, x = lI a → Sq y (iL a)) (xs := [lN nt, lI s, lI g]) (k_draw F (n + 3)) (.inl rfl) (show 3 ≤ 16777216 by decide) fun x hx => ?_).mono (show 16 * 3 + 1 ≤ 49 by decide) fun z hz => ?_
  · have ne : ∀ a, lN nt ≠ lI a := fun a e => lN_ne wf e
    have kInts : ∀ a : List Int, a.length ≤ 16777216 → Wp 16 (G (n + 4) i__law_loose [.strm, .dat (lI a)]) fun z => ∃ d f, z = (.dat d, f) ∧ ((lI a = lN nt → NetD d nt) ∧ ∀ b, lI a = lI b → Sq d (iL b)) := fun a ha =>
      (k_loose_ints F (n + 2) a ha).mono (by decide) fun z ⟨d, f, e, q⟩ => ⟨d, f, e, fun e2 => absurd e2.symm (ne a), fun b e2 => by rw [← lI_inj e2]; exact q⟩
    rcases List.mem_cons.mp hx with rfl | hx
    · exact (k_loose F n wf h5).mono (Nat.le_refl _) fun z ⟨d, f, e, q⟩ => ⟨d, f, e, fun _ => q, fun a e2 => absurd e2 (ne a)⟩
    · rcases List.mem_cons.mp hx with rfl | hx
      · exact kInts s hs
      · rcases List.mem_cons.mp hx with rfl | hx
        · exact kInts g hg
        · cases hx
  · obtain ⟨d, f, rfl, ys, hs, h2⟩ := hz
    cases h2 with
    | cons p1 r =>
      cases r with
      | cons p2 r =>
        cases r with
        | cons p3 r =>
          cases r
          exact ⟨d, f, rfl, _, _, _, hs, p1.1 rfl, p2.2 s rfl, p3.2 g rfl⟩
end
end T23
set_option Elab.async false
set_option linter.all false
set_option maxRecDepth 100000
set_option maxHeartbeats 4000000
/-! K23L: the law of is_way and is_trap, plain. -/
namespace T23
open PySem PySem.Spec PyProof.Rows L2 RZ DD
abbrev sRunB : SemS := (sSeq (sSet 11 (eCall i__law_e_restless (aCons (eVar 4) (aCons (eVar 8) aNil)))) (sSeq (sExt 9 (eIf (tVal (eOp oNe (eVar 11) (eLst aNil))) (eLst (aCons (eCall i__law_pick (aCons (eVar 1) (aCons (eVar 11) aNil))) aNil)) (eLst aNil))) (sSeq (sSet 8 (eIf (tVal (eOp oNe (eVar 11) (eLst aNil))) (eCall i__law_e_flipped (aCons (eVar 8) (aCons (eIx (eVar 9) (eUn oNeg (eC (.int 1)))) aNil))) (eVar 8))) sNil)))
abbrev iRuns : SemI := (iRange1 (eIf (tVal (eOp oNe (eVar 3) (eC (.int 6)))) (eCall i__law_draw (aCons (eVar 1) (aCons (eC (.int 7)) aNil))) (eAdd (eC (.int 34)) (eCall i__law_draw (aCons (eVar 1) (aCons (eC (.int 6)) aNil))))))
abbrev sThB : SemS := (sSeq (sSet 18 (eCall i__law_copied (aCons (eVar 17) aNil))) (sSeq (sSet 19 (eLst (aCons (eCall i__law_is_way (aCons (eVar 4) (aCons (eVar 6) (aCons (eVar 7) (aCons (eVar 18) aNil))))) (aCons (eCall i__law_is_trap (aCons (eVar 4) (aCons (eVar 6) (aCons (eVar 7) (aCons (eVar 18) aNil))))) aNil)))) (sSeq (sSet 20 (eCall i__law_copied (aCons (eVar 18) aNil))) (sSeq (sSet 21 (eLst (aCons (eCall i_is_way (aCons (eIx (eVar 13) (eC (.int 0))) (aCons (eIx (eVar 13) (eC (.int 1))) (aCons (eIx (eVar 13) (eC (.int 2))) (aCons (eVar 20) aNil))))) (aCons (eCall i_is_trap (aCons (eIx (eVar 13) (eC (.int 0))) (aCons (eIx (eVar 13) (eC (.int 1))) (aCons (eIx (eVar 13) (eC (.int 2))) (aCons (eVar 20) aNil))))) aNil)))) (sSeq (sSet 22 (eLst (aCons (eCallR i_is_way (aCons (eCall i__law_copied (aCons (eVar 18) aNil)) (aCons (eList (eVar 7)) (aCons (eList (eVar 6)) (aCons (eCall i__law_copied (aCons (eVar 4) aNil)) aNil))))) aNil))) (sSeq (sApp 22 (eCallR i_is_trap (aCons (eCall i__law_copied (aCons (eVar 18) aNil)) (aCons (eList (eVar 7)) (aCons (eList (eVar 6)) (aCons (eCall i__law_copied (aCons (eVar 4) aNil)) aNil)))))) (sSeq (sIf (tNot (tVal (eCall i__law_same (aCons (eLst (aCons (eVar 21) (aCons (eVar 22) (aCons (eVar 20) aNil)))) (aCons (eLst (aCons (eVar 19) (aCons (eVar 19) (aCons (eVar 18) aNil)))) aNil))))) (sSeq (sRet (eC (.bool false))) sNil) sNil) sNil)))))))
abbrev iThs : SemI := (iVal (eAdd (eAdd (eVar 16) (eLc [10] (iRange1 (eC (.int 4))) (gSlot 10) tYesD (eCall i__law_e_bent (aCons (eVar 1) (aCons (eVar 9) (aCons (eVar 2) aNil)))))) (eLc [10] (iRange1 (eC (.int 4))) (gSlot 10) tYesD (eCall i__law_e_bent (aCons (eVar 1) (aCons (eVar 12) (aCons (eVar 2) aNil)))))))
abbrev eThs : SemE := (eLst (aCons (eVar 9) (aCons (eTuple (eVar 9)) (aCons (eSl (eVar 9) oNone (oSome (eUn oNeg (eC (.int 1))))) (aCons (eRev (eVar 9)) (aCons (eAdd (eVar 9) (eSl (eVar 9) (oSome (eUn oNeg (eC (.int 1)))) oNone)) (aCons (eLst aNil) (aCons (eVar 12) (aCons (eLc [24] (iVal (eVar 12)) (gSlot 24) tYesD (eTuple (eVar 24))) (aCons (eRev (eVar 12)) (aCons (eSl (eVar 12) (oSome (eC (.int 1))) oNone) aNil)))))))))))
abbrev eMore : SemE := (eLst (aCons (eSl (eVar 12) oNone (oSome (eUn oNeg (eC (.int 1))))) (aCons (eVar 15) (aCons (eVar 5) (aCons (eC .none) (aCons (eC (.int 5)) (aCons eDNew (aCons (eC (.str "0")) (aCons (eLst (aCons (eVar 6) aNil)) (aCons (eLst (aCons (eC .none) aNil)) aNil))))))))))
abbrev eNets : SemE := (eLst (aCons (eLst (aCons (eTup (aCons (eLst (aCons (eC (.int 1)) aNil)) (aCons (eLst (aCons (eC (.int 1)) (aCons (eC (.int 0)) aNil))) aNil))) (aCons (eTup (aCons (eLst (aCons (eC (.int 0)) aNil)) (aCons (eLst (aCons (eC (.int 0)) (aCons (eC (.int 1)) aNil))) aNil))) aNil))) (aCons (eLst (aCons (eTup (aCons (eLst (aCons (eC (.int 2)) aNil)) (aCons (eLst (aCons (eC (.int 1)) (aCons (eC (.int 0)) aNil))) aNil))) (aCons (eTup (aCons (eLst (aCons (eC (.int 0)) aNil)) (aCons (eLst (aCons (eC (.int 0)) (aCons (eC (.int 1)) aNil))) aNil))) (aCons (eTup (aCons (eLst (aCons (eC (.int 1)) aNil)) (aCons (eLst (aCons (eC (.int 0)) (aCons (eC (.int 1)) aNil))) aNil))) aNil)))) aNil)))
abbrev sTurn2 : SemS := (sSeq (sSet 5 (eCall i__law_e_states (aCons (eLen (eVar 4)) aNil))) (sSeq (sUnp (gTup [(gSlot 6), (gSlot 7)]) (eTup (aCons (eCall i__law_pick (aCons (eVar 1) (aCons (eVar 5) aNil))) (aCons (eCall i__law_pick (aCons (eVar 1) (aCons (eVar 5) aNil))) aNil)))) (sSeq (sPar2 8 9 (eVar 6) (eLst aNil)) (sSeq (sFor iRuns (gSlot 10) sRunB) (sSeq (sSet 7 (eIf (tVal (eOp oEq (eCall i__law_draw (aCons (eVar 1) (aCons (eC (.int 2)) aNil))) (eC (.int 0)))) (eVar 8) (eVar 7))) (sSeq (sUnp (gTup [(gSlot 12), (gSlot 13)]) (eTup (aCons (eCall i__law_e_reached (aCons (eVar 4) (aCons (eVar 6) aNil))) (aCons (eCall i__law_loose (aCons (eVar 1) (aCons (eLst (aCons (eVar 4) (aCons (eVar 6) (aCons (eVar 7) aNil)))) aNil))) aNil)))) (sSeq (sSet 14 (eCall i__law_copied (aCons (eVar 13) aNil))) (sSeq (sSet 15 (eLc [24] (iVal (eVar 5)) (gSlot 24) (tVal (eOp oNe (eVar 24) (eVar 7))) (eVar 24))) (sSeq (sSet 16 eThs) (sSeq (sExt 16 eMore) (sSeq (sFor iThs (gSlot 17) sThB) (sSeq (sIf (tNot (tVal (eCall i__law_same (aCons (eVar 13) (aCons (eVar 14) aNil))))) (sSeq (sRet (eC (.bool false))) sNil) sNil) sNil))))))))))))
abbrev sTurn : SemS := (sSeq (sSet 4 (eCall i__law_e_net (aCons (eVar 1) (aCons (eIf (tVal (eOp oEq (eVar 3) (eC (.int 7)))) (eC (.int 5)) (eC (.int 4))) aNil)))) (sSeq (sIf (tVal (eOp oEq (eVar 3) (eC (.int 6)))) (sSeq (sSet 4 (eCall i__law_pick (aCons (eVar 1) (aCons eNets aNil)))) sNil) sNil) sTurn2))
abbrev eOdds : SemE := (eLst (aCons (eC .none) (aCons (eC (.bool true)) (aCons (eUn oNeg (eC (.int 1))) (aCons (eC (.int 0)) (aCons (eC (.int 1)) (aCons (eC (.int 2)) (aCons (eC (.int 9)) (aCons (eC (.str "0")) (aCons (eLst aNil) (aCons (eTup aNil) (aCons (eLst (aCons (eC (.int 0)) (aCons (eC (.int 1)) aNil))) (aCons (eLst (aCons (eC (.int 0)) aNil)) aNil)))))))))))))
abbrev eEnd : SemE := (eCall i__law_same (aCons (eLst (aCons (eCall i_is_way (aCons (eVar 23) (aCons (eLst (aCons (eC (.int 0)) aNil)) (aCons (eLst (aCons (eC (.int 0)) aNil)) (aCons (eLst (aCons (eC (.int 0)) (aCons (eC (.int 0)) aNil))) aNil))))) (aCons (eCall i_is_way (aCons (eVar 23) (aCons (eLst (aCons (eC (.int 0)) aNil)) (aCons (eLst (aCons (eC (.int 0)) aNil)) (aCons (eLst (aCons (eC (.bool true)) aNil)) aNil))))) (aCons (eCall i_is_trap (aCons (eVar 23) (aCons (eLst (aCons (eC (.int 0)) aNil)) (aCons (eLst (aCons (eC (.int 1)) aNil)) (aCons (eLst (aCons (eLst (aCons (eC (.int 0)) aNil)) aNil)) aNil))))) (aCons (eCall i_is_trap (aCons (eLst (aCons (eTup (aCons (eLst aNil) (aCons (eLst (aCons (eC (.int 0)) aNil)) aNil))) aNil)) (aCons (eLst (aCons (eC (.int 0)) aNil)) (aCons (eLst (aCons (eC (.int 1)) aNil)) (aCons (eLst (aCons (eLst (aCons (eC (.int 0)) aNil)) aNil)) aNil))))) aNil))))) (aCons (eLst (aCons (eC (.bool true)) (aCons (eC (.bool false)) (aCons (eC (.bool false)) (aCons (eC (.bool true)) aNil))))) aNil)))
abbrev S_rest : SemS := (sSeq (sSet 2 eOdds) (sSeq (sFor (iRange1 (eC (.int 8))) (gSlot 3) sTurn) (sSeq (sSet 23 (eLst (aCons (eTup (aCons (eLst (aCons (eC (.int 0)) aNil)) (aCons (eLst (aCons (eC (.int 1)) (aCons (eC (.int 0)) aNil))) aNil))) aNil))) (sSeq (sRet eEnd) sNil))))
abbrev VS (o2 o3 o4 o5 o6 o7 o8 o9 o10 o11 o12 o13 o14 o15 o16 o17 o18 o19 o20 o21 o22 o23 o24 : Option Vl) : List (Option Vl) := [none, some .strm, o2, o3, o4, o5, o6, o7, o8, o9, o10, o11, o12, o13, o14, o15, o16, o17, o18, o19, o20, o21, o22, o23, o24]
def oddsD : List PyData := [.none, .bool true, .int (-1), .int 0, .int 1, .int 2, .int 9, .str "0", .list [], .tuple [], lI [0, 1], lI [0]]
theorem bt_lI {L n : Nat} {a : List Int} (h : a.length ≤ L) : Bt L (n + 1) (lI a) := .list (fun x hx => by
  obtain ⟨i, _, rfl⟩ := List.mem_map.mp hx
  exact .int i) (by rw [List.length_map]; exact h)
theorem bt_iL {n : Nat} {a : List Int} : ∀ x ∈ iL a, ∀ L, Bt L n x := fun x hx L => by
  obtain ⟨i, _, rfl⟩ := List.mem_map.mp hx
  exact .int i
theorem odds_bt : ∀ o ∈ oddsD, Bt 100 1 o := by
  intro o ho
  simp only [oddsD, List.mem_cons, List.not_mem_nil, or_false] at ho
  rcases ho with rfl | rfl | rfl | rfl | rfl | rfl | rfl | rfl | rfl | rfl | rfl | rfl
  · exact .none
  · exact .bool _
  · exact .int _
  · exact .int _
  · exact .int _
  · exact .int _
  · exact .int _
  · exact .str _
  · exact .list (fun x hx => by cases hx) (Nat.zero_le _)
  · exact .tuple (fun x hx => by cases hx) (Nat.zero_le _)
  · exact bt_lI (by decide)
  · exact bt_lI (by decide)
section
variable {G : Nat → FEnv}
theorem oNe_nilI (ns : List Int) : oNe (lI ns) (.list []) = some (.bool (!ns.isEmpty)) := by
  have h : PyData.plainAll (iL ns) = true := plainAll_map (fun _ => rfl) ns
  have := oNe_nil h
  rw [show (iL ns).isEmpty = ns.isEmpty from by cases ns <;> rfl] at this
  exact this
theorem run_ok (F : FL G) {σ : SD} {b' : SemS} {Q : Out → Prop} {c : Nat} {nt : NetT} (wf : WfN nt) (h5 : nt.length ≤ 5) {s : List Int} (hs : s ∈ stT nt) {kk : Int} {o2 o5 o6 o7 o10 o11 o12 o13 o14 o15 o16 o17 o18 o19 o20 o21 o22 o23 o24 : Option Vl}
    (st : St σ (VS o2 (some (.dat (.int kk))) (some (.dat (lN nt))) o5 o6 o7 (some (.dat (lI s))) (some (.dat (lI []))) o10 o11 o12 o13 o14 o15 o16 o17 o18 o19 o20 o21 o22 o23 o24) [9])
    (k : ∀ σ' s' r o10 o11, s' ∈ stT nt → r.length ≤ 40 → Vw σ' (VS o2 (some (.dat (.int kk))) (some (.dat (lN nt))) o5 o6 o7 (some (.dat (lI s'))) (some (.dat (lI r))) o10 o11 o12 o13 o14 o15 o16 o17 o18 o19 o20 o21 o22 o23 o24) → Wp c (b' (G 50) σ') Q) : Wp (1 + 1 * 40 + c) (sSeq (sFor iRuns (gSlot 10) sRunB) b' (G 50) σ) Q := by
  have e1 : Dr (G 50) 1 (eIf (tVal (eOp oNe (eVar 3) (eC (.int 6)))) (eCall i__law_draw (aCons (eVar 1) (aCons (eC (.int 7)) aNil))) (eAdd (eC (.int 34)) (eCall i__law_draw (aCons (eVar 1) (aCons (eC (.int 6)) aNil))))) σ [] fun d => ∃ n : Nat, d = .int n ∧ n ≤ 40 := by
    refine dr_if (ev_tval (ev_op (st.v.ev (i := 3) rfl) (ev_c (.int 6)) (oNe_int _ _))) (fun _ => ?_) fun _ => ?_
    · exact Dr.mono (dr_draw (m := 7) (k_draw F 49) st.v rfl (ev_c (.int 7)) (by decide) (by decide)) (Nat.le_refl _) fun d ⟨j, hj, e⟩ => ⟨j, e, by omega⟩
    · exact dr_add2 (ev_c (.int 34)) ((dr_draw (m := 6) (k_draw F 49) st.v rfl (ev_c (.int 6)) (by decide) (by decide)).mono (Nat.le_refl _) fun d hj => by
        obtain ⟨j, hj, rfl⟩ := hj
        exact ⟨_, rfl, j + 34, by congr 1; omega, by omega⟩)
  refine q_forW (c0 := 1) (c1 := 1) (L := 40) (I := fun k σ => ∃ s' r o10 o11, s' ∈ stT nt ∧ r.length ≤ k ∧ St σ (VS o2 (some (.dat (.int kk))) (some (.dat (lN nt))) o5 o6 o7 (some (.dat (lI s'))) (some (.dat (lI r))) o10 o11 o12 o13 o14 o15 o16 o17 o18 o19 o20 o21 o22 o23 o24) [9]) (J := fun σ => ∃ s' r o10 o11, s' ∈ stT nt ∧ r.length ≤ 40 ∧ Vw σ (VS o2 (some (.dat (.int kk))) (some (.dat (lN nt))) o5 o6 o7 (some (.dat (lI s'))) (some (.dat (lI r))) o10 o11 o12 o13 o14 o15 o16 o17 o18 o19 o20 o21 o22 o23 o24))
    (dri_rg e1 (m := 40) (by decide) fun _ h => h) (fun _ h => h) (fun ct hct => ⟨s, [], _, _, hs, Nat.le_refl _, st.demote hct rfl⟩) (fun items hl k x σ hx hI => ?_) (fun items σ hl hI => ?_) fun σ' hI => ?_
  · obtain ⟨s', r, o10, o11, hs', hr, st⟩ := hI
    have l20 := wf.2.1
    obtain ⟨σ1, g1, s1⟩ := st.slot (i := 10) rfl x
    refine ⟨σ1, g1, ?_⟩
    refine q_set0 (i := 11) s1 (ev_call (eva_cons (s1.v.ev (i := 4) rfl) (eva_cons (s1.v.ev (i := 8) rfl) eva_nil)) (k_restless F 47 wf hs')) rfl fun σ2 s2 => ?_
    have tst := ev_tval (ev_op (Γ := G 50) (s2.v.ev (i := 11) rfl) (ev_lst (ds := []) eva_nil (show 0 ≤ 16777216 by decide)) (oNe_nilI (restN nt s')))
    have rl := restN_len nt s'
    have ex : Dr (G 50) 1 (eIf (tVal (eOp oNe (eVar 11) (eLst aNil))) (eLst (aCons (eCall i__law_pick (aCons (eVar 1) (aCons (eVar 11) aNil))) aNil)) (eLst aNil)) σ2 [11] fun d => ∃ ys : List Int, d = lI ys ∧ ys.length ≤ 1 ∧ ((restN nt s').isEmpty = false → ∃ x, ys = [x] ∧ x ∈ restN nt s') := by
      refine dr_if tst (fun hk => ?_) fun hk => ?_
      · have h0 : 0 < (iL (restN nt s')).length := by
          rw [List.length_map]
          cases hR : restN nt s' with
          | nil => rw [hR] at hk; cases hk
          | cons a t => exact Nat.succ_pos _
        refine Dr.mono (dr_lst1 (dr_call (eva_strm s2.v rfl (eva_cons (s2.v.ev (i := 11) rfl) eva_nil)) (k_pick F 48 (iL (restN nt s')) h0 (by rw [List.length_map]; omega)))) (Nat.le_refl _) fun d ⟨x, hd, hx⟩ => ?_
        obtain ⟨i, hi, rfl⟩ := List.mem_map.mp hx
        exact ⟨[i], hd, Nat.le_refl 1, fun _ => ⟨i, rfl, hi⟩⟩
      · refine Dr.mono ((ev_lst (ds := []) eva_nil (show 0 ≤ 16777216 by decide)).sub (T' := [11]) (fun _ z => by cases z) |>.dr ⟨[], rfl, Nat.zero_le _, fun h => ?_⟩) (Nat.zero_le _) fun _ z => z
        rw [h] at hk
        cases hk
    refine (q_ext (c1 := 1) (c2 := 0) (i := 9) (xs := iL r) s2 rfl ex rfl (fun d ⟨ys, hd, hl, _⟩ => ⟨iL ys, hd, ?_⟩) fun ys' σ3 hd s3 => ?_).le (Nat.le_refl _)
    · have := lt_of_at hx
      rw [List.length_map, List.length_map]
      omega
    · obtain ⟨ys, hd, hyl, hys⟩ := hd
      injection hd with hd
      subst hd
      have ap : PyData.list (iL r ++ iL ys) = lI (r ++ ys) := by unfold lI iL; rw [List.map_append]
      rw [ap] at s3
      have tst3 := ev_tval (ev_op (Γ := G 50) (s3.v.ev (i := 11) rfl) (ev_lst (ds := []) eva_nil (show 0 ≤ 16777216 by decide)) (oNe_nilI (restN nt s')))
      obtain ⟨s'', hs'', e8⟩ : ∃ s'', s'' ∈ stT nt ∧ Ev (G 50) (eIf (tVal (eOp oNe (eVar 11) (eLst aNil))) (eCall i__law_e_flipped (aCons (eVar 8) (aCons (eIx (eVar 9) (eUn oNeg (eC (.int 1)))) aNil))) (eVar 8)) σ3 (lI s'') [8] := by
        cases hE : (restN nt s').isEmpty with
        | true =>
          rw [hE] at tst3
          exact ⟨s', hs', ev_if tst3 (fun z => by cases z) fun _ => (s3.v.ev (i := 8) rfl).sub fun t ht => by simp at ht; simp [ht]⟩
        | false =>
          rw [hE] at tst3
          obtain ⟨x, rfl, hxm⟩ := hys hE
          obtain ⟨x0, x1⟩ := restN_mem hxm
          refine ⟨flipN s' x, flipN_mem hs' x0 x1, ev_if tst3 (fun _ => ?_) fun z => by cases z⟩
          refine (ev_call (eva_cons (s3.v.ev (i := 8) rfl) (eva_cons (ev_lastP (x := .int x) (s3.v.ev (i := 9) rfl) (ev_neg (ev_c (.int 1))) ?_ rfl) eva_nil)) (k_flipS F 49 (by omega) hs' x0 x1)).sub fun t ht => by simp at ht; simp; omega
          unfold iL
          rw [List.map_append, List.getLast?_append]
          rfl
      refine q_set0 (i := 8) s3 e8 rfl fun σ4 s4 => ?_
      refine q_nil ⟨s'', r ++ ys, _, _, hs'', ?_, s4⟩
      rw [List.length_append]
      omega
  · obtain ⟨s', r, o10, o11, hs', hr, st⟩ := hI
    exact ⟨s', r, o10, o11, hs', by omega, st.v⟩
  · obtain ⟨s', r, o10, o11, hs', hr, v⟩ := hI
    exact k σ' s' r o10 o11 hs' hr v
theorem thing_ok (F : FL G) {σ : SD} {nt : NetT} {s g : List Int} {a b c hd x : PyData} (wf : WfN nt) (hs : s ∈ stT nt) (hg : g ∈ stT nt) (hsq : Sq hd [a, b, c]) (ha : NetD a nt) (hb : Sq b (iL s)) (hc : Sq c (iL g)) (hx : Bt 100 3 x) {o2 o3 o5 o8 o9 o10 o11 o12 o14 o15 o16 o18 o19 o20 o21 o22 o23 o24 : Option Vl}
    (v : Vw σ (VS o2 o3 (some (.dat (lN nt))) o5 (some (.dat (lI s))) (some (.dat (lI g))) o8 o9 o10 o11 o12 (some (.dat (hd))) o14 o15 o16 (some (.dat (x))) o18 o19 o20 o21 o22 o23 o24)) : Wp 0 (sThB (G 50) σ) (NX fun σ' => ∃ o18 o19 o20 o21 o22, Vw σ' (VS o2 o3 (some (.dat (lN nt))) o5 (some (.dat (lI s))) (some (.dat (lI g))) o8 o9 o10 o11 o12 (some (.dat (hd))) o14 o15 o16 (some (.dat (x))) o18 o19 o20 o21 o22 o23 o24)) := by
  have nd : NoDic 49 x := (hx.noDic (by decide)).le (by decide)
  have hxl1 : ∀ xs, Sq x xs → xs.length ≤ 16777216 := fun xs h => by
    have := (hx.seq h).1
    omega
  have hxl2 : ∀ xs, Sq x xs → xs.length ≤ 16777000 ∧ ∀ y ∈ xs, ∀ ys, Sq y ys → ys.length ≤ 16777000 := fun xs h => by
    obtain ⟨l, m, _, h2⟩ := hx.seq h
    exact ⟨by omega, fun y hy ys hys => by
      have := ((h2 y hy).seq hys).1
      omega⟩
  obtain ⟨fw, hw⟩ := k_law_way F 46 g wf hs x
  obtain ⟨ft, ht⟩ := k_law_trap F 46 s g wf x hxl2
  obtain ⟨fp, hp⟩ := k_is_way F 43 ha wf hb hs hc hg x
  obtain ⟨fq, hq⟩ := k_is_trap F 43 ha wf hb hs hc hg x hxl1
  obtain ⟨fp2, hp2⟩ := k_is_way F 43 (netD_lN nt) wf (.inl rfl) hs (.inl rfl) hg x
  obtain ⟨fq2, hq2⟩ := k_is_trap F 43 (netD_lN nt) wf (.inl rfl) hs (.inl rfl) hg x hxl1
  have cN := k_copied F 49 ((netD_noDic (netD_lN nt) wf).le (by decide : 3 ≤ 49))
  have cX := k_copied F 49 nd
  generalize isWayD nt s g x = W at hw hp hp2
  generalize isTrapD nt s g x = Z at ht hq hq2
  have s0 : St σ _ [] := ⟨v, fun _ z => by cases z⟩
  refine q_set0 (i := 18) s0 (ev_call (eva_cons (s0.v.ev (i := 17) rfl) eva_nil) cX) rfl fun σ1 s1 => ?_
  have a1 := eva_cons (s1.v.ev (Γ := G 50) (i := 4) rfl) (eva_cons (s1.v.ev (i := 6) rfl) (eva_cons (s1.v.ev (i := 7) rfl) (eva_cons (s1.v.ev (i := 18) rfl) eva_nil)))
  refine q_set0 (i := 19) s1 (ev_lst (ds := [.bool W, .bool Z]) (eva_cons (ev_call a1 hw) (eva_cons (ev_call a1 ht) eva_nil)) (show 2 ≤ 16777216 by decide)) rfl fun σ2 s2 => ?_
  refine q_set0 (i := 20) s2 (ev_call (eva_cons (s2.v.ev (i := 18) rfl) eva_nil) cX) rfl fun σ3 s3 => ?_
  have i0 : Ev (G 50) (eIx (eVar 13) (eC (.int 0))) σ3 a [13] := ev_ix (s3.v.ev (i := 13) (d := hd) rfl) hsq (ev_c (.int 0)) (by decide) rfl
  have i1 : Ev (G 50) (eIx (eVar 13) (eC (.int 1))) σ3 b [13] := ev_ix (s3.v.ev (i := 13) (d := hd) rfl) hsq (ev_c (.int 1)) (by decide) rfl
  have i2 : Ev (G 50) (eIx (eVar 13) (eC (.int 2))) σ3 c [13] := ev_ix (s3.v.ev (i := 13) (d := hd) rfl) hsq (ev_c (.int 2)) (by decide) rfl
  have a3 := eva_cons i0 (eva_cons i1 (eva_cons i2 (eva_cons (s3.v.ev (i := 20) (d := x) rfl) eva_nil)))
  refine q_set0 (i := 21) s3 (ev_lst (ds := [.bool W, .bool Z]) (eva_cons (ev_call a3 hp) (eva_cons (ev_call a3 hq) eva_nil)) (show 2 ≤ 16777216 by decide)) rfl fun σ4 s4 => ?_
  have ar : ∀ {σ : SD} {vs : List (Option Vl)}, Vw σ vs → vs[18]? = some (some (.dat x)) → vs[7]? = some (some (.dat (lI g))) → vs[6]? = some (some (.dat (lI s))) → vs[4]? = some (some (.dat (lN nt))) →
      EvA (G 50) (aCons (eCall i__law_copied (aCons (eVar 18) aNil)) (aCons (eList (eVar 7)) (aCons (eList (eVar 6)) (aCons (eCall i__law_copied (aCons (eVar 4) aNil)) aNil)))) σ [.dat x, .dat (lI g), .dat (lI s), .dat (lN nt)] [18, 7, 6, 4] := fun v h1 h2 h3 h4 =>
    eva_cons (ev_call (eva_cons (v.ev h1) eva_nil) cX) (eva_cons (ev_list (v.ev h2) (.inl rfl)) (eva_cons (ev_list (v.ev h3) (.inl rfl)) (eva_cons (ev_call (eva_cons (v.ev h4) eva_nil) cN) eva_nil)))
  refine (q_setO (c1 := 0) (c2 := 0) (i := 22) (P := fun d => d = .list [.bool W]) s4 (dro_lst (ds := [.bool W]) (eva_cons (ev_callR (ar s4.v rfl rfl rfl rfl) hp2) eva_nil) (show 1 ≤ 16777216 by decide) rfl) rfl (show 22 < 25 by decide) fun d σ5 hd5 s5 => ?_).le (Nat.le_refl _)
  subst hd5
  refine (q_app (c1 := 0) (c2 := 0) (i := 22) (xs := [.bool W]) (P := fun d => d = .bool Z) s5 rfl ((ev_callR (ar s5.v rfl rfl rfl rfl) hq2).dr rfl) rfl (show 1 < 16777216 by decide) fun d σ6 hd6 s6 => ?_).le (Nat.le_refl _)
  subst hd6
  have nd3 : NoDic 49 (.list [.list [.bool W, .bool Z], .list [.bool W, .bool Z], x]) := by
    have nb : NoDic 3 (.list [.bool W, .bool Z]) := by
      refine (NoDic.list (n := 0) (xs := [.bool W, .bool Z]) (fun y hy => ?_) (show 2 ≤ 16777216 by decide)).le (by decide)
      simp only [List.mem_cons, List.not_mem_nil, or_false] at hy
      rcases hy with rfl | rfl <;> exact .bool _
    refine NoDic.le (n := 4) (.list (fun y hy => ?_) (show 3 ≤ 16777216 by decide)) (by decide)
    simp only [List.mem_cons, List.not_mem_nil, or_false] at hy
    rcases hy with rfl | rfl | rfl
    · exact nb
    · exact nb
    · exact hx.noDic (by decide)
  refine q_iff (tNot_of (c := true) (ev_tval (ev_call (eva_cons (ev_lst (ds := [.list [.bool W, .bool Z], .list [.bool W, .bool Z], x]) (eva_cons (s6.v.ev (i := 21) rfl) (eva_cons (s6.v.ev (i := 22) rfl) (eva_cons (s6.v.ev (i := 20) rfl) eva_nil))) (show 3 ≤ 16777216 by decide)) (eva_cons (ev_lst (ds := [.list [.bool W, .bool Z], .list [.bool W, .bool Z], x]) (eva_cons (s6.v.ev (i := 19) rfl) (eva_cons (s6.v.ev (i := 19) rfl) (eva_cons (s6.v.ev (i := 18) rfl) eva_nil))) (show 3 ≤ 16777216 by decide)) eva_nil)) (k_same F 49 nd3)))) ?_
  exact q_nil ⟨_, _, _, _, _, s6.v⟩
theorem bt_LL {L n : Nat} {R : List (List Int)} (h : R.length ≤ L) (h2 : ∀ z ∈ R, z.length ≤ L) : Bt L (n + 2) (.list (R.map lI)) := .list (fun x hx => by
  obtain ⟨z, hz, rfl⟩ := List.mem_map.mp hx
  exact bt_lI (h2 z hz)) (by rw [List.length_map]; exact h)
theorem all2_bt {L n : Nat} {xs ds : List PyData} (h : All2 (fun _ d => Bt L n d) xs ds) : ds.length = xs.length ∧ ∀ d ∈ ds, Bt L n d := by
  induction h with
  | nil => exact ⟨rfl, fun _ z => by cases z⟩
  | cons p _ ih =>
    refine ⟨by rw [List.length_cons, List.length_cons, ih.1], fun d hd => ?_⟩
    rcases List.mem_cons.mp hd with rfl | hd
    · exact p
    · exact ih.2 d hd
/-- the things, as far as the law needs to know them -/
def Ths (m : Nat) (d : PyData) : Prop := ∃ xs, d = .list xs ∧ xs.length ≤ m ∧ ∀ x ∈ xs, Bt 100 3 x
theorem ths_ok (F : FL G) {σ : SD} {r : List Int} {R : List (List Int)} {ths : List PyData} (hr : r.length ≤ 40) (hR : R.length ≤ 32) (hz : ∀ z ∈ R, z.length ≤ 32) (ht : ths.length ≤ 19 ∧ ∀ x ∈ ths, Bt 100 3 x) {o3 o4 o5 o6 o7 o8 o10 o11 o13 o14 o15 o17 o18 o19 o20 o21 o22 o23 o24 : Option Vl}
    (v : Vw σ (VS (some (.dat (.list oddsD))) o3 o4 o5 o6 o7 o8 (some (.dat (lI r))) o10 o11 (some (.dat (.list (R.map lI)))) o13 o14 o15 (some (.dat (.list ths))) o17 o18 o19 o20 o21 o22 o23 o24)) : DrI (G 50) (0 + 10 * 4 + 15 * 4) iThs σ [9, 2, 12, 16] fun xs => xs.length ≤ 27 ∧ ∀ x ∈ xs, Bt 100 3 x := by
  have ho0 : 0 < oddsD.length := by decide
  have ho1 : oddsD.length < 1000000 := by decide
  have rl : (rangeD 0 4).length = 4 := rfl
  have bent1 := dr_lc1 (Γ := G 50) (c := 10) (own := [10]) (g := gSlot 10) (e := eCall i__law_e_bent (aCons (eVar 1) (aCons (eVar 9) (aCons (eVar 2) aNil)))) (Y := fun _ d => Bt 100 3 d) (items := rangeD 0 4) (T' := [9, 2]) v (ei_rg (n := 4) (ev_c (.int 4)) (by decide)) (show 4 ≤ 16777216 by decide) fun x hx σ0 h0 => by
    obtain ⟨σ1, g1, g2⟩ := h0.slot 10 x
    refine ⟨σ1, g1, dr_call (eva_strm g2 rfl (eva_cons (g2.ev (i := 9) (d := lI r) rfl) (eva_cons (g2.ev (i := 2) (d := .list oddsD) rfl) eva_nil))) ?_⟩
    exact (k_bent F ho0 ho1 (L := 100) (by decide) odds_bt 1 46 (L0 := 40) (by decide) (bt_lI hr)).mono (Nat.le_refl _) fun z ⟨d, f, e, b⟩ => ⟨d, f, e, b.le (by decide)⟩
  have bent2 := dr_lc1 (Γ := G 50) (c := 15) (own := [10]) (g := gSlot 10) (e := eCall i__law_e_bent (aCons (eVar 1) (aCons (eVar 12) (aCons (eVar 2) aNil)))) (Y := fun _ d => Bt 100 3 d) (items := rangeD 0 4) (T' := [12, 2]) v (ei_rg (n := 4) (ev_c (.int 4)) (by decide)) (show 4 ≤ 16777216 by decide) fun x hx σ0 h0 => by
    obtain ⟨σ1, g1, g2⟩ := h0.slot 10 x
    refine ⟨σ1, g1, dr_call (eva_strm g2 rfl (eva_cons (g2.ev (i := 12) (d := .list (R.map lI)) rfl) (eva_cons (g2.ev (i := 2) (d := .list oddsD) rfl) eva_nil))) ?_⟩
    exact (k_bent F ho0 ho1 (L := 100) (by decide) odds_bt 2 45 (L0 := 32) (by decide) (bt_LL hR hz)).mono (Nat.le_refl _) fun z ⟨d, f, e, b⟩ => ⟨d, f, e, b.le (by decide)⟩
  have add : ∀ {m : Nat} {d e : PyData}, m ≤ 100 → Ths m d → (∃ ds, e = .list ds ∧ All2 (fun _ d => Bt 100 3 d) (rangeD 0 4) ds) → ∃ xs ys, d = .list xs ∧ e = .list ys ∧ xs.length + ys.length ≤ 16777216 ∧ Ths (m + 4) (.list (xs ++ ys)) := fun {m d e} hm ⟨xs, e1, l1, h1⟩ ⟨ys, e2, h2⟩ => by
    obtain ⟨l2, h3⟩ := all2_bt h2
    rw [rl] at l2
    refine ⟨xs, ys, e1, e2, by omega, xs ++ ys, rfl, by rw [List.length_append]; omega, fun x hx => ?_⟩
    rcases List.mem_append.mp hx with hx | hx
    · exact h1 x hx
    · exact h3 x hx
  have d0 : Dr (G 50) 0 (eVar 16) σ [16] (Ths 19) := (v.ev (i := 16) (d := .list ths) rfl).dr ⟨ths, rfl, ht.1, ht.2⟩
  have d1 := dr_addD (Q := Ths 23) d0 bent1 fun d e h1 h2 => add (by decide) h1 h2
  have d2 := dr_addD (Q := Ths 27) d1 bent2 fun d e h1 h2 => add (by decide) h1 h2
  refine dri_val (P := Ths 27) ?_ fun d h => h
  exact Wp.mono d2 (Nat.le_refl _) fun r ⟨d, e, p, t⟩ => ⟨d, e, p, fun x hx => by
    have := t x hx
    simp at this ⊢
    omega⟩
theorem turn2_ok (F : FL G) {σ : SD} {kk : Int} {nt : NetT} (wf : WfN nt) (h5 : nt.length ≤ 5) {o5 o6 o7 o8 o9 o10 o11 o12 o13 o14 o15 o16 o17 o18 o19 o20 o21 o22 o23 o24 : Option Vl}
    (v : Vw σ (VS (some (.dat (.list oddsD))) (some (.dat (.int kk))) (some (.dat (lN nt))) o5 o6 o7 o8 o9 o10 o11 o12 o13 o14 o15 o16 o17 o18 o19 o20 o21 o22 o23 o24)) : Wp 200 (sTurn2 (G 50) σ) (NX fun σ' => ∃ o3 o4 o5 o6 o7 o8 o9 o10 o11 o12 o13 o14 o15 o16 o17 o18 o19 o20 o21 o22 o23 o24, Vw σ' (VS (some (.dat (.list oddsD))) o3 o4 o5 o6 o7 o8 o9 o10 o11 o12 o13 o14 o15 o16 o17 o18 o19 o20 o21 o22 o23 o24)) := by
  have s0 : St σ _ [] := ⟨v, fun _ z => by cases z⟩
  have ssl : (stT nt).length ≤ 32 := stD_len h5
  obtain ⟨fS, hS⟩ := k_states F 49 nt.length h5
  have eS : Ev (G 50) (eCall i__law_e_states (aCons (eLen (eVar 4)) aNil)) σ (.list ((stT nt).map lI)) [] := by
    refine ev_call (f := fS) (eva_cons (ev_len (s0.v.ev (i := 4) rfl) (.inl rfl)) eva_nil) ?_
    rw [List.length_map]
    exact hS
  refine q_set0 (i := 5) s0 eS rfl fun σ5 s5 => ?_
  have hne : 0 < (stT nt).length := List.length_pos_iff.mpr (stD_ne nt.length)
  have pk : Dr (G 50) 1 (eCall i__law_pick (aCons (eVar 1) (aCons (eVar 5) aNil))) σ5 [5] fun d => ∃ s, s ∈ stT nt ∧ d = lI s :=
    Dr.mono (dr_call (eva_strm s5.v rfl (eva_cons (s5.v.ev (i := 5) rfl) eva_nil)) (k_pick F 48 ((stT nt).map lI) (by rw [List.length_map]; exact hne) (by rw [List.length_map]; omega))) (Nat.le_refl _) fun d hd => by
      obtain ⟨s, hs, e⟩ := List.mem_map.mp hd
      exact ⟨s, hs, e.symm⟩
  refine (q_unp (c1 := 2) (c2 := 198) (P' := fun x y => (∃ s, s ∈ stT nt ∧ x = lI s) ∧ ∃ s, s ∈ stT nt ∧ y = lI s) s5 (dr_tupD pk pk) rfl (fun d ⟨x, y, e, p, q⟩ => ⟨x, y, e, p, q⟩) fun x y σ6 hp s6 => ?_).le (by decide)
  obtain ⟨⟨s, hs, rfl⟩, g0, hg0, rfl⟩ := hp
  refine (q_par2 (c1 := 0) (c2 := 0) (c := 198) (o1 := false) (o2 := true) (P1 := fun d => d = lI s) (P2 := fun d => d = lI []) s6 ((s6.v.ev (i := 6) rfl).dr (P := fun d => d = lI s) rfl).o (dro_rP (d := .list []) rfl rfl) rfl fun d1 d2 σ8 hd1 hd2 s8 => ?_).le (by decide)
  subst hd1
  subst hd2
  refine (run_ok F wf h5 hs (c := 150) s8 fun σ10 s' r p10 p11 hs' hr v10 => ?_).le (by decide)
  have s10 : St σ10 _ [] := ⟨v10, fun _ z => by cases z⟩
  have e7 : Dr (G 50) 1 (eIf (tVal (eOp oEq (eCall i__law_draw (aCons (eVar 1) (aCons (eC (.int 2)) aNil))) (eC (.int 0)))) (eVar 8) (eVar 7)) σ10 [8, 7] fun d => ∃ g, g ∈ stT nt ∧ d = lI g := by
    refine Dr.mono (dr_ifw (c1 := 1) (c2 := 0) (Pt := fun _ => True) (dr_drawEq (m := 2) 0 (k_draw F 49) s10.v rfl (ev_c (.int 2)) (by decide) (by decide)) (fun _ => ?_) fun _ => ?_) (Nat.le_refl _) fun _ h => h
    · exact ((s10.v.ev (i := 8) (d := lI s') rfl).sub fun t ht => by simp at ht; simp [ht]).dr ⟨s', hs', rfl⟩
    · exact ((s10.v.ev (i := 7) (d := lI g0) rfl).sub fun t ht => by simp at ht; simp [ht]).dr ⟨g0, hg0, rfl⟩
  refine (q_set (c1 := 1) (c2 := 149) s10 e7 rfl fun d σ7 hd7 s7 => ?_).le (by decide)
  obtain ⟨g, hg, rfl⟩ := hd7
  obtain ⟨R, fR, hRe, hRl, hRm⟩ := k_reached F 46 wf h5 hs
  have lens : ∀ z ∈ stT nt, z.length ≤ 5 := fun z hz => by
    have := (stD_mem.mp hz).1
    omega
  have eR := ev_call (Γ := G 50) (f := fR) (eva_cons (s7.v.ev (i := 4) (d := lN nt) rfl) (eva_cons (s7.v.ev (i := 6) (d := lI s) rfl) eva_nil)) hRe
  have eL := dr_call (Γ := G 50) (eva_strm s7.v (i := 1) rfl (eva_cons (ev_lst (ds := [lN nt, lI s, lI g]) (eva_cons (s7.v.ev (i := 4) (d := lN nt) rfl) (eva_cons (s7.v.ev (i := 6) (d := lI s) rfl) (eva_cons (s7.v.ev (i := 7) (d := lI g) rfl) eva_nil))) (show 3 ≤ 16777216 by decide)) eva_nil)) (k_loose3 F 45 wf h5 (by have := lens s hs; omega) (by have := lens g hg; omega))
  refine (q_unp (c1 := 49) (c2 := 100) (P' := fun x y => x = .list (R.map lI) ∧ ∃ a b c, Sq y [a, b, c] ∧ NetD a nt ∧ Sq b (iL s) ∧ Sq c (iL g)) s7 (dr_tup2 eR eL) rfl (fun d ⟨y, e, p⟩ => ⟨_, y, e, rfl, p⟩) fun x hd σ12 hp s12 => ?_).le (by decide)
  obtain ⟨rfl, a, b, c, hsq, ha, hb, hc⟩ := hp
  have ndh : NoDic 4 hd := by
    refine noDic_sq hsq (fun x hx => ?_) (show 3 ≤ 16777216 by decide)
    have il : ∀ {d : PyData} {z : List Int}, Sq d (iL z) → z.length ≤ 5 → NoDic 3 d := fun h hl => (noDic_sq h (fun x hx => by
      obtain ⟨i, _, rfl⟩ := List.mem_map.mp hx
      exact NoDic.int (n := 0) i) (by rw [List.length_map]; omega)).le (by decide)
    simp only [List.mem_cons, List.not_mem_nil, or_false] at hx
    rcases hx with rfl | rfl | rfl
    · exact netD_noDic ha wf
    · exact il hb (lens s hs)
    · exact il hc (lens g hg)
  refine q_set0 (i := 14) s12 (ev_call (eva_cons (s12.v.ev (i := 13) rfl) eva_nil) (k_copied F 49 (ndh.le (by decide)))) rfl fun σ14 s14 => ?_
  have lcw := ev_lcA (Γ := G 50) (own := [24]) (g := gSlot 24) (t := tVal (eOp oNe (eVar 24) (eVar 7))) (e := eVar 24) (items := stT nt) (p := lI) (V := lI) (q := fun z => !decide (z = g)) (T' := [24]) s14.v (ei_val (s14.v.ev (i := 5) rfl) (.inl rfl)) (by omega) fun z hz σ0 h0 => by
    obtain ⟨σ1, g1, g2⟩ := h0.slot 24 (lI z)
    exact ⟨σ1, g1, ev_tval (ev_op (g2.ev (i := 24) (d := lI z) rfl) (g2.ev (i := 7) (d := lI g) rfl) (oNe_lI z g)), fun _ => g2.ev rfl⟩
  refine q_set0 (i := 15) s14 lcw rfl fun σ15 s15 => ?_
  generalize hwd : (stT nt).filter (fun z => !decide (z = g)) = wd at s15
  have wdl : wd.length ≤ 32 := by
    rw [← hwd]
    exact Nat.le_trans (List.length_filter_le _ _) ssl
  have wdm : ∀ z ∈ wd, z ∈ stT nt := fun z hz => by
    rw [← hwd] at hz
    exact (List.mem_filter.mp hz).1
  -- the things
  have v9 := s15.v.ev (Γ := G 50) (i := 9) (d := lI r) rfl
  have v12 := s15.v.ev (Γ := G 50) (i := 12) (d := .list (R.map lI)) rfl
  have m1 : Ev (G 50) (eUn oNeg (eC (.int 1))) σ15 (.int (-1)) [] := ev_neg (ev_c (.int 1))
  have irl : (iL r).length = r.length := List.length_map ..
  have e4 := ev_addL v9 (ev_slG v9 (evo_some m1) (evo_none (Γ := G 50))) (by have := cutD_len (iL r) (some (-1)) none; omega)
  have lct := ev_lcM (Γ := G 50) (own := [24]) (g := gSlot 24) (e := eTuple (eVar 24)) (items := R) (p := lI) (V := tI) (T' := [24]) s15.v (ei_val v12 (.inl rfl)) (by omega) fun z hz σ0 h0 => by
    obtain ⟨σ1, g1, g2⟩ := h0.slot 24 (lI z)
    exact ⟨σ1, g1, ev_tuple (g2.ev (i := 24) (d := lI z) rfl) (.inl rfl)⟩
  have bi : ∀ {xs : List PyData}, xs.length ≤ 100 → (∀ x ∈ xs, x ∈ iL r) → Bt 100 3 (.list xs) := fun hl hm => .list (fun x hx => bt_iL x (hm x hx) 100) hl
  have bl : ∀ {L : List (List Int)} {xs : List PyData}, xs.length ≤ 100 → (∀ x ∈ xs, x ∈ L.map lI) → (∀ z ∈ L, z ∈ stT nt) → Bt 100 3 (.list xs) := fun {L xs} hl hm hz => .list (fun x hx => by
    obtain ⟨z, h, rfl⟩ := List.mem_map.mp (hm x hx)
    exact bt_lI (by have := lens z (hz z h); omega)) hl
  have Rl : (R.map lI).length = R.length := List.length_map ..
  have b10 : ∀ x ∈ ([lI r, .tuple (iL r), .list (cutD (iL r) none (some (-1))), .list (iL r).reverse, .list (iL r ++ cutD (iL r) (some (-1)) none), .list [], .list (R.map lI), .list (R.map tI), .list (R.map lI).reverse, .list (cutD (R.map lI) (some 1) none)] : List PyData), Bt 100 3 x := by
    intro x hx
    simp only [List.mem_cons, List.not_mem_nil, or_false] at hx
    rcases hx with rfl | rfl | rfl | rfl | rfl | rfl | rfl | rfl | rfl | rfl
    · exact bt_lI (by omega)
    · exact .tuple (fun x hx => bt_iL x hx 100) (by omega)
    · exact bi (by have := cutD_len (iL r) none (some (-1)); omega) fun x hx => cutD_mem hx
    · exact bi (by rw [List.length_reverse]; omega) fun x hx => List.mem_reverse.mp hx
    · refine bi (by rw [List.length_append]; have := cutD_len (iL r) (some (-1)) none; omega) fun x hx => ?_
      rcases List.mem_append.mp hx with hx | hx
      · exact hx
      · exact cutD_mem hx
    · exact .list (fun x hx => by cases hx) (Nat.zero_le _)
    · exact bl (L := R) (by omega) (fun x hx => hx) hRm
    · refine .list (fun x hx => ?_) (by rw [List.length_map]; omega)
      obtain ⟨z, h, rfl⟩ := List.mem_map.mp hx
      exact .tuple (fun x hx => bt_iL x hx 100) (by rw [List.length_map]; have := lens z (hRm z h); omega)
    · exact bl (L := R) (by rw [List.length_reverse]; omega) (fun x hx => List.mem_reverse.mp hx) hRm
    · exact bl (L := R) (by have := cutD_len (R.map lI) (some 1) none; omega) (fun x hx => cutD_mem hx) hRm
  have ths10 := dro_lst (P := fun d => ∃ xs, d = .list xs ∧ xs.length = 10 ∧ ∀ x ∈ xs, Bt 100 3 x) (eva_cons v9 (eva_cons (ev_tuple v9 (.inl rfl)) (eva_cons (ev_slG v9 (evo_none (Γ := G 50)) (evo_some m1)) (eva_cons (ev_rev v9) (eva_cons e4 (eva_cons (ev_lst (ds := []) eva_nil (show 0 ≤ 16777216 by decide)) (eva_cons v12 (eva_cons lct (eva_cons (ev_rev v12) (eva_cons (ev_slG v12 (evo_some (ev_c (.int 1))) (evo_none (Γ := G 50))) eva_nil)))))))))) (ds := [lI r, .tuple (iL r), .list (cutD (iL r) none (some (-1))), .list (iL r).reverse, .list (iL r ++ cutD (iL r) (some (-1)) none), .list [], .list (R.map lI), .list (R.map tI), .list (R.map lI).reverse, .list (cutD (R.map lI) (some 1) none)]) (show 10 ≤ 16777216 by decide) ⟨_, rfl, rfl, b10⟩
  refine (q_setO (c1 := 0) (c2 := 100) (i := 16) s15 ths10 rfl (show 16 < 25 by decide) fun d σ16 hd16 s16 => ?_).le (by decide)
  obtain ⟨xs10, rfl, l10, b10⟩ := hd16
  have w12 := s16.v.ev (Γ := G 50) (i := 12) (d := .list (R.map lI)) rfl
  have b9 : ∀ x ∈ ([.list (cutD (R.map lI) none (some (-1))), .list (wd.map lI), .list ((stT nt).map lI), .none, .int 5, .dict [], .str "0", .list [lI s], .list [.none]] : List PyData), Bt 100 3 x := by
    intro x hx
    simp only [List.mem_cons, List.not_mem_nil, or_false] at hx
    rcases hx with rfl | rfl | rfl | rfl | rfl | rfl | rfl | rfl | rfl
    · exact bl (L := R) (by have := cutD_len (R.map lI) none (some (-1)); omega) (fun x hx => cutD_mem hx) hRm
    · exact bl (L := wd) (by rw [List.length_map]; omega) (fun x hx => hx) wdm
    · exact bl (L := stT nt) (by rw [List.length_map]; omega) (fun x hx => hx) fun z hz => hz
    · exact .none
    · exact .int _
    · exact .dict
    · exact .str _
    · exact bl (L := [s]) (show 1 ≤ 100 by decide) (fun x hx => hx) fun z hz => by
        have : z = s := by simpa using hz
        rw [this]
        exact hs
    · refine .list (fun x hx => ?_) (show 1 ≤ 100 by decide)
      have : x = .none := by simpa using hx
      rw [this]
      exact .none
  have m9 : Ev (G 50) (eUn oNeg (eC (.int 1))) σ16 (.int (-1)) [] := ev_neg (ev_c (.int 1))
  have eD : Ev (G 50) eDNew σ16 (.dict []) [] := ⟨rE, rfl, rfl, fun _ z => z⟩
  have more := ev_lst (Γ := G 50) (ds := [.list (cutD (R.map lI) none (some (-1))), .list (wd.map lI), .list ((stT nt).map lI), .none, .int 5, .dict [], .str "0", .list [lI s], .list [.none]]) (eva_cons (ev_slG w12 (evo_none (Γ := G 50)) (evo_some m9)) (eva_cons (s16.v.ev (i := 15) rfl) (eva_cons (s16.v.ev (i := 5) rfl) (eva_cons (ev_c .none) (eva_cons (ev_c (.int 5)) (eva_cons eD (eva_cons (ev_c (.str "0")) (eva_cons (ev_lst (ds := [lI s]) (eva_cons (s16.v.ev (i := 6) rfl) eva_nil) (show 1 ≤ 16777216 by decide)) (eva_cons (ev_lst (ds := [.none]) (eva_cons (ev_c .none) eva_nil) (show 1 ≤ 16777216 by decide)) eva_nil))))))))) (show 9 ≤ 16777216 by decide)
  refine (q_ext (c1 := 0) (c2 := 100) (i := 16) (xs := xs10) (P := fun d => d = .list [.list (cutD (R.map lI) none (some (-1))), .list (wd.map lI), .list ((stT nt).map lI), .none, .int 5, .dict [], .str "0", .list [lI s], .list [.none]]) s16 rfl (more.dr rfl) rfl (fun d hd => ⟨_, hd, show xs10.length + 9 ≤ 16777216 by omega⟩) fun ys σ17 hd17 s17 => ?_).le (by decide)
  injection hd17 with hd17
  subst hd17
  have th : ∀ {ys : List PyData}, ys.length = 9 → (∀ x ∈ ys, Bt 100 3 x) → (xs10 ++ ys).length ≤ 19 ∧ ∀ x ∈ xs10 ++ ys, Bt 100 3 x := fun {ys} hl hy => ⟨by rw [List.length_append]; omega, fun x hx => by
    rcases List.mem_append.mp hx with hx | hx
    · exact b10 x hx
    · exact hy x hx⟩
  have lens32 : ∀ z ∈ R, z.length ≤ 32 := fun z hz => by
    have := lens z (hRm z hz)
    omega
  refine (q_forWR (c0 := 100) (c1 := 0) (L := 27) (c2 := 0) (P := fun _ => True) (I := fun σ => ∃ o17 o18 o19 o20 o21 o22 o16, Vw σ (VS (some (.dat (.list oddsD))) (some (.dat (.int kk))) (some (.dat (lN nt))) (some (.dat (.list ((stT nt).map lI)))) (some (.dat (lI s))) (some (.dat (lI g))) (some (.dat (lI s'))) (some (.dat (lI r))) p10 p11 (some (.dat (.list (R.map lI)))) (some (.dat (hd))) (some (.dat (hd))) (some (.dat (.list (wd.map lI)))) o16 o17 o18 o19 o20 o21 o22 o23 o24)) (ths_ok F hr hRl lens32 (th rfl b9) s17.v) (fun _ h => h.1) (fun ct _ => ⟨_, _, _, _, _, _, _, s17.v.demote ct⟩) (fun items hp x hx σ hI => ?_) fun σ' hI => ?_).le (by decide)
  · obtain ⟨o17, o18, o19, o20, o21, o22, o16, v⟩ := hI
    obtain ⟨σ1, g1, g2⟩ := v.slot 17 x
    refine ⟨σ1, g1, ?_⟩
    refine (thing_ok F wf hs hg hsq ha hb hc (hp.2 x hx) g2).mono (Nat.le_refl _) fun o ⟨σ2, e, q⟩ => ?_
    obtain ⟨p18, p19, p20, p21, p22, q⟩ := q
    exact ⟨σ2, e, _, _, _, _, _, _, _, q⟩
  · obtain ⟨o17, o18, o19, o20, o21, o22, o16, v⟩ := hI
    refine q_iff (tNot_of (c := true) (ev_tval (ev_call (eva_cons (v.ev (i := 13) (d := hd) rfl) (eva_cons (v.ev (i := 14) (d := hd) rfl) eva_nil)) (k_same F 49 (ndh.le (by decide)))))) ?_
    exact q_nil ⟨_, _, _, _, _, _, _, _, _, _, _, _, _, _, _, _, _, _, _, _, _, _, v⟩
def n6a : NetT := [([1], [1, 0]), ([0], [0, 1])]
def n6b : NetT := [([2], [1, 0]), ([0], [0, 1]), ([1], [0, 1])]
def ntN : NetT := [([0], [1, 0])]
def ntM : NetT := [([], [0])]
instance (most : Nat) (m : Int) (hs : List Int) : Decidable (okH m most hs) := by unfold okH; exact inferInstance
instance (nt : NetT) : Decidable (WfN nt) := by unfold WfN; exact inferInstance
theorem wf6a : WfN n6a := by decide
theorem wf6b : WfN n6b := by decide
theorem wfN : WfN ntN := by decide
theorem wfM : WfN ntM := by decide
theorem nets_ev {Γ : FEnv} {σ : SD} : Ev Γ eNets σ (.list [lN n6a, lN n6b]) [] := ev_rP rfl
theorem odds_ev {Γ : FEnv} {σ : SD} : Ev Γ eOdds σ (.list oddsD) [] := ev_rP rfl
theorem turn_ok (F : FL G) {σ : SD} {kk : Int} {o4 o5 o6 o7 o8 o9 o10 o11 o12 o13 o14 o15 o16 o17 o18 o19 o20 o21 o22 o23 o24 : Option Vl} (v : Vw σ (VS (some (.dat (.list oddsD))) (some (.dat (.int kk))) o4 o5 o6 o7 o8 o9 o10 o11 o12 o13 o14 o15 o16 o17 o18 o19 o20 o21 o22 o23 o24)) : Wp 1201 (sTurn (G 50) σ) (NX fun σ' => ∃ o3 o4 o5 o6 o7 o8 o9 o10 o11 o12 o13 o14 o15 o16 o17 o18 o19 o20 o21 o22 o23 o24, Vw σ' (VS (some (.dat (.list oddsD))) o3 o4 o5 o6 o7 o8 o9 o10 o11 o12 o13 o14 o15 o16 o17 o18 o19 o20 o21 o22 o23 o24)) := by
  have s0 : St σ _ [] := ⟨v, fun _ z => by cases z⟩
  have e4 : Dr (G 50) 1000 (eCall i__law_e_net (aCons (eVar 1) (aCons (eIf (tVal (eOp oEq (eVar 3) (eC (.int 7)))) (eC (.int 5)) (eC (.int 4))) aNil))) σ [] fun d => ∃ nt, d = lN nt ∧ WfN nt ∧ nt.length ≤ 5 := by
    have t := ev_eqI (Γ := G 50) 7 (s0.v.ev (i := 3) rfl)
    by_cases h7 : kk = 7
    · rw [decide_eq_true h7] at t
      exact dr_call (eva_strm s0.v rfl (eva_cons (ev_if t (fun _ => ev_c (.int 5)) fun z => by cases z) eva_nil)) (k_e_net F 47 (most := 5) (by decide) (by decide))
    · rw [decide_eq_false h7] at t
      exact (dr_call (eva_strm s0.v rfl (eva_cons (ev_if t (fun z => by cases z) fun _ => ev_c (.int 4)) eva_nil)) (k_e_net F 47 (most := 4) (by decide) (by decide))).mono (Nat.le_refl _) fun d ⟨nt, h1, h2, h3⟩ => ⟨nt, h1, h2, by omega⟩
  refine (q_set (c1 := 1000) (c2 := 201) s0 e4 rfl fun d σ4 hd s4 => ?_).le (by decide)
  obtain ⟨nt, rfl, wf, h5⟩ := hd
  have t := ev_eqI (Γ := G 50) 6 (s4.v.ev (i := 3) rfl)
  by_cases h6 : kk = 6
  · rw [decide_eq_true h6] at t
    refine (q_ift (c1 := 1) (c2 := 200) (Q1 := fun σ => ∃ nt, WfN nt ∧ nt.length ≤ 5 ∧ Vw σ (VS (some (.dat (.list oddsD))) (some (.dat (.int kk))) (some (.dat (lN nt))) o5 o6 o7 o8 o9 o10 o11 o12 o13 o14 o15 o16 o17 o18 o19 o20 o21 o22 o23 o24)) t ?_ fun σ' hq => ?_).le (by decide)
    · have pk := dr_call (Γ := G 50) (eva_strm s4.v (i := 1) rfl (eva_cons nets_ev eva_nil)) (k_pick F 48 [lN n6a, lN n6b] (show 0 < 2 by decide) (show 2 < 1000000 by decide))
      refine (q_set (c1 := 1) (c2 := 0) s4 pk rfl fun d σ5 hd s5 => ?_).le (by decide)
      simp only [List.mem_cons, List.not_mem_nil, or_false] at hd
      rcases hd with rfl | rfl
      · exact q_nil ⟨n6a, wf6a, by decide, s5.v⟩
      · exact q_nil ⟨n6b, wf6b, by decide, s5.v⟩
    · obtain ⟨nt', wf', h5', v'⟩ := hq
      exact turn2_ok F wf' h5' v'
  · rw [decide_eq_false h6] at t
    exact q_iff t ((turn2_ok F wf h5 s4.v).le (by decide))
def st0 : SD := (List.replicate 25 none).set 1 (some ⟨.strm, .no⟩)
theorem end_ok (F : FL G) {σ : SD} {o2 o3 o4 o5 o6 o7 o8 o9 o10 o11 o12 o13 o14 o15 o16 o17 o18 o19 o20 o21 o22 o24 : Option Vl} (v : Vw σ (VS o2 o3 o4 o5 o6 o7 o8 o9 o10 o11 o12 o13 o14 o15 o16 o17 o18 o19 o20 o21 o22 (some (.dat (lN ntN))) o24)) : ∃ T, Ev (G 50) eEnd σ (.bool true) T := by
  have e1 : isWayD ntN [0] [0] (lI [0, 0]) = true := by kernel_rfl
  have e2 : isWayD ntN [0] [0] (.list [.bool true]) = false := by kernel_rfl
  have e3 : isTrapD ntN [0] [1] (.list [lI [0]]) = false := by kernel_rfl
  have e4 : isTrapD ntM [0] [1] (.list [lI [0]]) = true := by kernel_rfl
  have m0 : [0] ∈ stT ntN := by decide
  have m1 : [1] ∈ stT ntN := by decide
  have m2 : [0] ∈ stT ntM := by decide
  have m3 : [1] ∈ stT ntM := by decide
  have one : ∀ {x : PyData} {xs : List PyData}, Sq (.list [x]) xs → xs.length ≤ 16777216 := fun h => by
    rcases h with h | h
    · injection h with h
      rw [← h]
      exact (show 1 ≤ 16777216 by decide)
    · cases h
  obtain ⟨f1, h1⟩ := k_is_way F 43 (netD_lN ntN) wfN (.inl rfl) m0 (.inl rfl) m0 (lI [0, 0])
  obtain ⟨f2, h2⟩ := k_is_way F 43 (netD_lN ntN) wfN (.inl rfl) m0 (.inl rfl) m0 (.list [.bool true])
  obtain ⟨f3, h3⟩ := k_is_trap F 43 (netD_lN ntN) wfN (.inl rfl) m0 (.inl rfl) m1 (.list [lI [0]]) fun _ h => one h
  obtain ⟨f4, h4⟩ := k_is_trap F 43 (netD_lN ntM) wfM (.inl rfl) m2 (.inl rfl) m3 (.list [lI [0]]) fun _ h => one h
  rw [e1] at h1
  rw [e2] at h2
  rw [e3] at h3
  rw [e4] at h4
  have l0 : ∀ {i : Int}, Ev (G 50) (eLst (aCons (eC (.int i)) aNil)) σ (lI [i]) [] := ev_rP rfl
  have vn := v.ev (Γ := G 50) (i := 23) (d := lN ntN) rfl
  have nd : NoDic 49 (.list [.bool true, .bool false, .bool false, .bool true]) := by
    refine (NoDic.list (n := 0) (xs := [.bool true, .bool false, .bool false, .bool true]) (fun y hy => ?_) (show 4 ≤ 16777216 by decide)).le (by decide)
    simp only [List.mem_cons, List.not_mem_nil, or_false] at hy
    rcases hy with rfl | rfl | rfl | rfl <;> exact .bool _
  exact ⟨_, ev_call (eva_cons (ev_lst (ds := [.bool true, .bool false, .bool false, .bool true]) (eva_cons (ev_call (eva_cons vn (eva_cons l0 (eva_cons l0 (eva_cons (ev_rP (d := lI [0, 0]) rfl) eva_nil)))) h1) (eva_cons (ev_call (eva_cons vn (eva_cons l0 (eva_cons l0 (eva_cons (ev_rP (d := .list [.bool true]) rfl) eva_nil)))) h2) (eva_cons (ev_call (eva_cons vn (eva_cons l0 (eva_cons l0 (eva_cons (ev_rP (d := .list [lI [0]]) rfl) eva_nil)))) h3) (eva_cons (ev_call (eva_cons (ev_rP (d := lN ntM) rfl) (eva_cons l0 (eva_cons l0 (eva_cons (ev_rP (d := .list [lI [0]]) rfl) eva_nil)))) h4) eva_nil)))) (show 4 ≤ 16777216 by decide)) (eva_cons (ev_rP (d := .list [.bool true, .bool false, .bool false, .bool true]) rfl) eva_nil)) (k_same F 49 nd)⟩
theorem law_plain (F : FL G) : Wp 100000 (S_rest (G 50) st0) (RT fun d => d = .bool true) := by
  have v0 : Vw st0 (VS none none none none none none none none none none none none none none none none none none none none none none none ) := rfl
  have s0 : St st0 _ [] := ⟨v0, fun _ z => by cases z⟩
  refine q_set0 (i := 2) s0 odds_ev rfl fun σ2 s2 => ?_
  refine (q_for (c1 := 1201) (c2 := 0) (I := fun _ σ' => ∃ o3 o4 o5 o6 o7 o8 o9 o10 o11 o12 o13 o14 o15 o16 o17 o18 o19 o20 o21 o22 o23 o24, Vw σ' (VS (some (.dat (.list oddsD))) o3 o4 o5 o6 o7 o8 o9 o10 o11 o12 o13 o14 o15 o16 o17 o18 o19 o20 o21 o22 o23 o24)) (ei_rg (n := 8) (ev_c (.int 8)) (by decide)) (fun ct _ => ⟨_, _, _, _, _, _, _, _, _, _, _, _, _, _, _, _, _, _, _, _, _, _, s2.v.demote ct⟩) (fun k x σ hx hI => ?_) fun σ' hI => ?_).le (by decide)
  · obtain ⟨o3, o4, o5, o6, o7, o8, o9, o10, o11, o12, o13, o14, o15, o16, o17, o18, o19, o20, o21, o22, o23, o24, v⟩ := hI
    rw [rangeD_rI] at hx
    obtain ⟨kk, _, rfl⟩ := iL_at hx
    obtain ⟨σ1, g1, g2⟩ := v.slot 3 (.int kk)
    exact ⟨σ1, g1, turn_ok F g2⟩
  · obtain ⟨o3, o4, o5, o6, o7, o8, o9, o10, o11, o12, o13, o14, o15, o16, o17, o18, o19, o20, o21, o22, o23, o24, v⟩ := hI
    have s : St σ' _ [] := ⟨v, fun _ z => by cases z⟩
    refine q_set0 (i := 23) s (ev_rP (d := lN ntN) rfl) rfl fun σ2 s2 => ?_
    obtain ⟨T, h⟩ := end_ok F s2.v
    exact q_ret (h.dr rfl)
end
end T23
set_option Elab.async false
set_option linter.all false
set_option maxRecDepth 100000
set_option maxHeartbeats 0
namespace T23
open PySem PySem.Spec PyProof.Rows L2 RZ DD
abbrev top (i : Nat) : Stmt := PySem.Challenge.pw_switchrests_k23_any_way_or_trap_judged.main.body.getD i (.Pass ⟨0, 0, 0, 0⟩)
def mkD (n : Str) (s : Stmt) : He.DefD := ⟨(n, none), n, n, defArgs s, defBody s, defScope s, [], []⟩
def dl : He.DefD := mkD "law" (top 49)
def rest : List Stmt := (defBody (top 49)).tail
theorem law_eq : lawM XR0 fn 22 none 50 dl rest = S_rest (G0 50) st0 := by kernel_rfl
theorem plainW : wpB 1099511627776 (lawM XR0 fn 22 none 50 dl rest) (fun _ o => ∃ f σ, o = .rt (.dat (.bool true)) f σ) (fun _ _ => False) := by
  rw [law_eq]
  exact wpB_mono (fun b o h => by
    obtain ⟨_, d, f, σ, e, rfl⟩ := h
    exact ⟨f, σ, e⟩) (fun _ _ z => z) _ _ ((law_plain fl).of 1099511627776 (by decide))
abbrev R : PySem.W.OpenRow := PySem.W.OpenLaw.row PySem.Challenge.rw_switchrests_k23_any_way_or_trap_judged
def dd : He.DefD := mkD "_law_draw" (top 31)
def ds : He.DefD := mkD "_law_stream" (top 30)
theorem boot_int' : bootBuiltins ("int" : Str) = some (.type "int") := by decide +kernel
theorem boot_abs' : bootBuiltins ("abs" : Str) = some (.builtin "abs") := by decide +kernel
theorem drawTx : DrawTx dd := by
  refine ⟨rfl, ⟨rfl, rfl, rfl, by decide +kernel, rfl, by decide +kernel, by decide +kernel⟩, ?_⟩
  intro X hN hs hc h1 h2 hp hu
  have v0 : ∀ {p : Pos}, PE X (.Name "stream" p) (tVar 0) := pe_var (by rw [hN]; rfl) (by rw [hs]; exact .inl (by decide +kernel)) (by decide +kernel) (by decide +kernel)
  have v1 : ∀ {p : Pos}, PE X (.Name "many" p) (tVar 1) := pe_var (by rw [hN]; rfl) (by rw [hs]; exact .inl (by decide +kernel)) (by decide +kernel) (by decide +kernel)
  have v2 : ∀ {p : Pos}, PE X (.Name "cell" p) (tVar 2) := pe_var (by rw [hN]; rfl) (by rw [hs]; exact .inl (by decide +kernel)) (by decide +kernel) (by decide +kernel)
  have v3 : ∀ {p : Pos}, PE X (.Name "digit" p) (tVar 3) := pe_var (by rw [hN]; rfl) (by rw [hs]; exact .inl (by decide +kernel)) (by decide +kernel) (by decide +kernel)
  have v4 : ∀ {p : Pos}, PE X (.Name "mixed" p) (tVar 4) := pe_var (by rw [hN]; rfl) (by rw [hs]; exact .inl (by decide +kernel)) (by decide +kernel) (by decide +kernel)
  have nd : X.N.Nodup := by rw [hN]; decide +kernel
  have l2 : Loc X.env.scope "cell" := by rw [hs]; exact .inl (by decide +kernel)
  have l3 : Loc X.env.scope "digit" := by rw [hs]; exact .inl (by decide +kernel)
  have l4 : Loc X.env.scope "mixed" := by rw [hs]; exact .inl (by decide +kernel)
  have n2 : X.env.scope.names.lookup ("cell" : Str) = some .local := by rw [hs]; decide +kernel
  have n3 : X.env.scope.names.lookup ("digit" : Str) = some .local := by rw [hs]; decide +kernel
  have n4 : X.env.scope.names.lookup ("mixed" : Str) = some .local := by rw [hs]; decide +kernel
  have gi : Gl X "int" := by show X.env.scope.names.lookup _ = _; rw [hs]; decide +kernel
  have ga : Gl X "abs" := by show X.env.scope.names.lookup _ = _; rw [hs]; decide +kernel
  have tS : ∀ {i : Int} {k : Nat} {p p1 p2 : Pos}, PE X (.Subscript (.Name "stream" p) (.Constant (.int i) k p1) p2) (Dr.tS X.K i) := pe_ix ix_list v0 pe_int (plainIx rfl)
  have gS : ∀ {i : Int} {k : Nat} {p p1 p2 : Pos}, PG X (.Subscript (.Name "stream" p) (.Constant (.int i) k p1) p2) (Dr.gS i) := pg_sub v0 pe_int set_list
  have pI : ∀ {e : Expr} {t : TE} {p pos : Pos}, star? e = false → PE X e t → PE X (.Call (.Name "int" p) [e] [] pos) (Dr.tI t) := fun h he => pe_callTy call_int1 gi h2 boot_int' (pa_cons he pa_nil (star_cons h)) (by decide +kernel) (by decide +kernel) (star_cons h) rfl
  refine pss_cons (ps_asg (pe_op op_add tS pe_int) gS) ?_
  refine pss_cons (ps_while hp (pw_and (pt_cmpR (op_eqP hu) tS pe_int (nobehind _ (by decide) (by decide))) (pw_and1 (pt_cmpR (op_neP hu) tS (pe_lst pa_nil) (nobehind _ (by decide) (by decide))))).pt ?_) ?_
  · refine pss_cons (ps_set (i := 2) nd (by rw [hN]; rfl) l2 (pe_callB call_abs ga h1 boot_abs' (pa_cons (pe_bm PySem.F.plainAttrs_list PySem.F.slot_list_pop PySem.F.type_list_pop mt_popAt tS (pa_cons pe_int pa_nil)) pa_nil) (by decide +kernel) (by decide +kernel)) rfl (.inr n2)) ?_
    refine pss_cons (ps_asg (pe_op op_mod (pI rfl (pe_op op_add (pe_op op_add (pe_op op_mul tS pe_int) v2) pe_int)) pe_int) gS) ?_
    exact pss_one (ps_asg (pe_ifExp (pt_cmpR op_ge v2 (pe_op op_pow pe_int pe_int) (nobehind _ (by decide) (by decide))) v2 pe_int) gS)
  refine pss_cons (ps_if (pt_cmpR op_gt tS pe_int (nobehind _ (by decide) (by decide))) ?_ pss_nil) ?_
  · refine pss_cons (ps_set (i := 3) nd (by rw [hN]; rfl) l3 (pe_op op_mod (pI rfl tS) v1) rfl (.inr n3)) ?_
    exact pss_cons (ps_asg (pe_op op_fdiv tS v1) gS) (pss_one (ps_ret v3))
  refine pss_cons (ps_set (i := 4) nd (by rw [hN]; rfl) l4 (pe_op op_mod (pI rfl (pe_op op_pow (pe_op op_add (pe_op op_add tS (pe_op op_mul pe_int tS)) pe_int) pe_int)) pe_int) rfl (.inr n4)) ?_
  exact pss_one (ps_ret (pe_op op_mod (pe_op op_mod (pI rfl (pe_op op_pow (pe_op op_add (pe_op op_add (pe_op op_mul v4 pe_int) (pe_op op_mul pe_int tS)) pe_int) pe_int)) pe_int) v1))
theorem strmTx : StrmTx ds := by
  refine ⟨rfl, ⟨rfl, rfl, rfl, by decide +kernel, rfl, by decide +kernel, by decide +kernel⟩, ?_⟩
  intro X hN hs hc h1
  have v0 : ∀ {p : Pos}, PE X (.Name "script" p) (tVar 0) := pe_var (by rw [hN]; rfl) (by rw [hs]; exact .inl (by decide +kernel)) (by decide +kernel) (by decide +kernel)
  have gl : Gl X "list" := by show X.env.scope.names.lookup _ = _; rw [hs]; decide +kernel
  exact pss_one (ps_ret (pe_lst (pa_cons (pe_callTy call_list_of gl h1 (by decide +kernel) (pa_cons v0 pa_nil) (by decide +kernel) (by decide +kernel)) (pa_cons pe_int (pa_cons pe_int (pa_cons pe_int pa_nil))))))
theorem boot_isi' : bootBuiltins ("isinstance" : Str) = some (.builtin "isinstance") := by decide +kernel
theorem lawTx : LawTx fn dl rest := by
  refine ⟨rfl, by decide +kernel, by decide +kernel, ⟨_, _, _, _, _, rfl⟩, by decide +kernel, by decide +kernel, by decide +kernel, by decide +kernel, by decide +kernel⟩
theorem fn_dd : fn[22]? = some dd := by kernel_rfl
theorem fn_ds : fn[21]? = some ds := by kernel_rfl
theorem fn_dl : fn[40]? = some dl := by kernel_rfl
theorem fn_ps : ∀ d ∈ fn, plainP d.params = true ∧ (psOf d.params).Nodup := by decide +kernel
theorem fn_at : ∀ d ∈ fn, d.at_ = (d.name, none) ∧ d.dfl = [] ∧ d.kwd = [] := by
  intro d hd
  unfold fn at hd
  obtain ⟨s, _, hs⟩ := List.mem_filterMap.mp hd
  unfold defD? at hs
  split at hs
  · cases hs; exact ⟨rfl, rfl, rfl⟩
  · cases hs
def fa : List He.Fa := bltNames.map He.Fa.free ++ fn.map fun d => He.Fa.glo d.name
abbrev hk : PySem.W.Hook := He.hookD 4 fa fn
def ob (s : PySem.W.SharedT) : He.AlD := He.obsDG 4 fa fn (HandSHeadRun.getT s)
theorem ob_eq (s : PySem.W.SharedT) : ob s = hk.obs s.abs := He.obsDG_eq (HandSHeadRun.getT_eq s)
def boundN : Stmt → List Str
  | .FunctionDef n .. => [n]
  | .ClassDef n .. => [n]
  | _ => []
def names : List Str := (body.flatMap boundN).filter (fun n => n != ("law" : Str))
theorem run (w : World) : HandSHeadRun.RunEq R (PySem.W.view R.prog [49]) hk ob 4000 names w := by
  intro os
  kernel_rfl
theorem factsOf {K : PySem.W.Frag} {h : Heap} {mg : Str → Option Value} (X : K.In h) (G : h.Ns mainGlobals mg) (c : He.SaysD fa fn K) : Facts fn K mg := by
  refine ⟨fun d hd => ?_, fun x hx => ?_⟩
  · obtain ⟨fd, F⟩ := c.defs hd
    obtain ⟨a1, a2, a3⟩ := fn_at d hd
    have g : (He.Fa.glo d.name).ok K = true := c.facts (List.mem_append_right _ (List.mem_map.mpr ⟨d, hd, rfl⟩))
    have e1 : d.dvs K = [] := by unfold He.DefD.dvs; rw [a2]; rfl
    have e2 : d.kws K = [] := by unfold He.DefD.kws; rw [a3]; rfl
    have e3 : He.fAd K d.at_ = He.ga K d.name := by rw [a1]; rfl
    rw [e1, e2, e3] at F
    exact ⟨_, fd, F, He.glo_ok X G g⟩
  · have g : (He.Fa.free x).ok K = true := c.facts (List.mem_append_left _ (List.mem_map.mpr ⟨x, by simpa using hx, rfl⟩))
    exact He.free_ok X G g
/-- the law over a head, from its plain meaning -/
theorem facts {P : Program} {w : World} {K : PySem.W.Frag} {h : Heap} {mg : Str → Option Value} {f : Addr} (plain : wpB 1099511627776 (lawM XR0 fn 22 none 50 dl rest) (fun _ o => ∃ f σ, o = .rt (.dat (.bool true)) f σ) (fun _ _ => False)) (X : K.In h) (G : h.Ns mainGlobals mg) (hfa : mg ("law" : Str) = some (.ref f)) (c : He.SaysD fa fn K) :
    ∃ fd : FuncData, (∀ (s : Shared) (v : Value), BindsTo s fd ⟨[v], []⟩ [("script", v)]) ∧ ∀ base : Heap, K.In base → base.Ns mainGlobals mg → FnOk P w K mg base (L2.CX P w) (50 + 1) f fd ["script"] (spLaw K []) := by
  have Fa := factsOf X G c
  have hdl : dl ∈ fn := List.mem_of_getElem? fn_dl
  obtain ⟨f', fd, F, hm⟩ := Fa.def_ dl hdl
  have e := hfa.symm.trans hm
  cases e
  have F' := F
  rw [plainP_eq lawTx.pl] at F'
  have hb := FunD.bindsA (ps := psOf dl.params) F' fun kV doc pm an cdv ct us hl => bind_plain (fn_ps dl hdl).2 kV doc pm an cdv ct us hl
  refine ⟨fd, fun s v => hb s [v] rfl, fun base _ _ => ?_⟩
  exact law_fn (XR := XR0) (spo := none) Fa fn_dd drawTx (fun j hj => by cases hj) fn_ps (List.mem_of_getElem? fn_ds) rfl strmTx hdl lawTx (by decide) plain F
theorem plain : wpB 1099511627776 (lawM XR0 fn 22 none 50 dl rest) (fun _ o => ∃ f σ, o = .rt (.dat (.bool true)) f σ) (fun _ _ => False) := plainW
end T23
open PySem PySem.W PySem.Calls PyProof.Rows
theorem PySem.Challenge.cw_switchrests_k23_any_way_or_trap_judged_holds : PySem.Challenge.rw_switchrests_k23_any_way_or_trap_judged.Holds := by
  w_on; o_law
  refine HandSHeadRun.head_any (r := OpenLaw.row PySem.Challenge.rw_switchrests_k23_any_way_or_trap_judged) (q := view (OpenLaw.row PySem.Challenge.rw_switchrests_k23_any_way_or_trap_judged).prog [49]) (H := T23.hk) (ob := T23.ob) (M := 4000) (loose := T23.names) (d := HandSHeadRun.topDef (OpenLaw.row PySem.Challenge.rw_switchrests_k23_any_way_or_trap_judged).prog 49) (kwd := []) T23.ob_eq
    (by kernel_rfl) (fun s => by kernel_rfl) T23.run (by kernel_rfl) (by kernel_rfl) (by kernel_rfl) (by rfl) (by first | assumption | decide +kernel) (by decide +kernel) ⟨rfl, rfl, rfl, rfl, rfl, by decide +kernel⟩ ?hw ?hc
  case hw => w_witness2
  case hc =>
    refine DD.walk_ofW (l := PySem.Challenge.rw_switchrests_k23_any_way_or_trap_judged) (n := 63) (k := 50 + 1) (x := "script") (CX := fun w => L2.CX PySem.Challenge.rw_switchrests_k23_any_way_or_trap_judged.prog w) rfl (by decide) (by kernel_rfl) ⟨rfl, by decide, by decide⟩ ?F (fun w H s e s' h => DD.cx_no h)
    intro w mg fa h Y G hmg0
    obtain ⟨K, KX, c⟩ := Y
    have hmg : mg ("law" : PySem.Str) = some (.ref fa) := by
      have e : (HandSHeadRun.topDef (OpenLaw.row PySem.Challenge.rw_switchrests_k23_any_way_or_trap_judged).prog 49).name = ("law" : PySem.Str) := by kernel_rfl
      rw [← e]
      exact hmg0
    obtain ⟨fd, hb, hF⟩ := T23.facts (P := (PySem.Challenge.rw_switchrests_k23_any_way_or_trap_judged).prog) (w := w) T23.plain KX G hmg c
    exact ⟨K, fd, DD.spLaw K [], KX, hb, fun H a ns hl _ hS => ⟨a, ns, rfl, hS, (fun _ z => by cases z), fun _ => rfl⟩, hF⟩
