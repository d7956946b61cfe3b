import PyProof.Rows.All
import Wide.All
import OpenK.AllK
import Wide.FinOn
import HandS.ForMost
import HandS.IsInst
import HandS.TupAny
import HandS.Wide
import HandS.Text
import HandS.RaiseMore
import PyProof.ReprLen
import HandS.Flow
import HandS.Style
import HandS.Walk
import HandS.Ends
import HandS.Words
import PySem.Challenge.RW_likecells_k02_rows_of_integers
section
set_option Elab.async false
set_option linter.all false
/-! RL1: a small interpreter over plain data: values D, a virtual store, demonic draws. Own work. -/
namespace RL
open PySem

/-- plain data: what a value is worth when nothing changes it any more -/
inductive D where
  | non
  | bl (b : Bool)
  | int (i : Int)
  | str (cs : List Nat)
  | lst (ds : List D)
  | tup (ds : List D)
  | dct (ks vs : List D)
  | ins (c : Nat) (ds : List D)
  | fn (i : Nat)
  | pen

/-- a value of a slot: data, or a thing of the store that may change -/
inductive W where
  | d (x : D)
  | r (n : Nat)

inductive Ob where
  | lst (ds : List D)
  | dead

abbrev EnvD := List (Option W)
abbrev Sto := List Ob

/-- what a piece of code does: ends, raises, is stuck, or asks for a number below n -/
inductive M (α : Type) where
  | ret (a : α)
  | exc (c : Nat) (ds : List D)
  | stuck
  | draw (n : Int) (k : Int → M α)

def M.bnd {α β : Type} : M α → (α → M β) → M β
  | .ret a, k => k a
  | .exc c ds, _ => .exc c ds
  | .stuck, _ => .stuck
  | .draw n h, k => .draw n fun v => (h v).bnd k

/-- for all draws: Q of the end, E of what is raised -/
def M.wp {α : Type} : M α → (α → Prop) → (Nat → List D → Prop) → Prop
  | .ret a, Q, _ => Q a
  | .exc c ds, _, E => E c ds
  | .stuck, _, _ => False
  | .draw n k, Q, E => (0 < n ∧ n < 2 ^ 1000) ∧ ∀ v, 0 ≤ v → v < n → (k v).wp Q E

/-- the same where no more than b draws may come -/
def M.wpb {α : Type} : M α → Nat → (α → Nat → Prop) → (Nat → List D → Nat → Prop) → Prop
  | .ret a, b, Q, _ => Q a b
  | .exc c ds, b, _, E => E c ds b
  | .stuck, _, _, _ => False
  | .draw n k, b, Q, E => (0 < n ∧ n < 2 ^ 1000) ∧ ∃ b', b = b' + 1 ∧ ∀ v, 0 ≤ v → v < n → (k v).wpb b' Q E

/-- no path has more than c draws -/
def M.few {α : Type} : M α → Nat → Prop
  | .ret _, _ => True
  | .exc _ _, _ => True
  | .stuck, _ => True
  | .draw n k, c => ∃ c', c = c' + 1 ∧ ∀ v, 0 ≤ v → v < n → (k v).few c'

section
variable {α β : Type}
theorem M.wp_bnd : ∀ (m : M α) (k : α → M β) (Q : β → Prop) (E : Nat → List D → Prop), (m.bnd k).wp Q E ↔ m.wp (fun a => (k a).wp Q E) E
  | .ret _, _, _, _ => Iff.rfl
  | .exc _ _, _, _, _ => Iff.rfl
  | .stuck, _, _, _ => Iff.rfl
  | .draw n h, k, Q, E => by
    show (_ ∧ ∀ v, 0 ≤ v → v < n → ((h v).bnd k).wp Q E) ↔ (_ ∧ ∀ v, 0 ≤ v → v < n → (h v).wp _ E)
    constructor
    · exact fun ⟨a, b⟩ => ⟨a, fun v h0 h1 => (M.wp_bnd (h v) k Q E).mp (b v h0 h1)⟩
    · exact fun ⟨a, b⟩ => ⟨a, fun v h0 h1 => (M.wp_bnd (h v) k Q E).mpr (b v h0 h1)⟩
theorem M.wpb_bnd : ∀ (m : M α) (k : α → M β) (b : Nat) (Q : β → Nat → Prop) (E : Nat → List D → Nat → Prop), (m.bnd k).wpb b Q E ↔ m.wpb b (fun a b' => (k a).wpb b' Q E) E
  | .ret _, _, _, _, _ => Iff.rfl
  | .exc _ _, _, _, _, _ => Iff.rfl
  | .stuck, _, _, _, _ => Iff.rfl
  | .draw n h, k, b, Q, E => by
    show (_ ∧ ∃ b', b = b' + 1 ∧ ∀ v, 0 ≤ v → v < n → ((h v).bnd k).wpb b' Q E) ↔ (_ ∧ ∃ b', b = b' + 1 ∧ ∀ v, 0 ≤ v → v < n → (h v).wpb b' _ E)
    constructor
    · exact fun ⟨a, b', e, q⟩ => ⟨a, b', e, fun v h0 h1 => (M.wpb_bnd (h v) k b' Q E).mp (q v h0 h1)⟩
    · exact fun ⟨a, b', e, q⟩ => ⟨a, b', e, fun v h0 h1 => (M.wpb_bnd (h v) k b' Q E).mpr (q v h0 h1)⟩
theorem M.wp_mono : ∀ (m : M α) {Q Q' : α → Prop} {E E' : Nat → List D → Prop}, m.wp Q E → (∀ a, Q a → Q' a) → (∀ c ds, E c ds → E' c ds) → m.wp Q' E'
  | .ret a, _, _, _, _, h, f, _ => f a h
  | .exc c ds, _, _, _, _, h, _, g => g c ds h
  | .stuck, _, _, _, _, h, _, _ => h
  | .draw n k, _, _, _, _, h, f, g => ⟨h.1, fun v h0 h1 => (k v).wp_mono (h.2 v h0 h1) f g⟩
theorem M.wpb_mono : ∀ (m : M α) {b : Nat} {Q Q' : α → Nat → Prop} {E E' : Nat → List D → Nat → Prop}, m.wpb b Q E → (∀ a b', Q a b' → Q' a b') → (∀ c ds b', E c ds b' → E' c ds b') → m.wpb b Q' E'
  | .ret a, _, _, _, _, _, h, f, _ => f a _ h
  | .exc c ds, _, _, _, _, _, h, _, g => g c ds _ h
  | .stuck, _, _, _, _, _, h, _, _ => h
  | .draw n k, _, _, _, _, _, ⟨h1, b', e, h⟩, f, g => ⟨h1, b', e, fun v h0 h2 => (k v).wpb_mono (h v h0 h2) f g⟩
theorem M.wpb_of : ∀ (m : M α) {b : Nat} {Q : α → Prop} {E : Nat → List D → Prop}, m.wp Q E → m.few b → m.wpb b (fun a _ => Q a) (fun c ds _ => E c ds)
  | .ret _, _, _, _, h, _ => h
  | .exc _ _, _, _, _, h, _ => h
  | .stuck, _, _, _, h, _ => h
  | .draw n k, _, _, _, h, ⟨c', e, f⟩ => ⟨h.1, c', e, fun v h0 h1 => (k v).wpb_of (h.2 v h0 h1) (f v h0 h1)⟩
theorem M.few_mono : ∀ (m : M α) {c c' : Nat}, m.few c → c ≤ c' → m.few c'
  | .ret _, _, _, _, _ => True.intro
  | .exc _ _, _, _, _, _ => True.intro
  | .stuck, _, _, _, _ => True.intro
  | .draw n k, c, c', ⟨d, e, f⟩, h => ⟨c' - 1, by omega, fun v h0 h1 => (k v).few_mono (f v h0 h1) (by omega)⟩
theorem M.few_bnd : ∀ (m : M α) {k : α → M β} {c d : Nat}, m.few c → (∀ a, (k a).few d) → (m.bnd k).few (c + d)
  | .ret a, k, c, d, _, h => (k a).few_mono (h a) (Nat.le_add_left _ _)
  | .exc _ _, _, _, _, _, _ => True.intro
  | .stuck, _, _, _, _, _ => True.intro
  | .draw n g, k, c, d, ⟨c', e, f⟩, h => ⟨c' + d, by omega, fun v h0 h1 => (g v).few_bnd (f v h0 h1) h⟩
end
@[simp] theorem bnd_ret {α β : Type} (a : α) (k : α → M β) : (M.ret a).bnd k = k a := rfl
@[simp] theorem bnd_exc {α β : Type} (c : Nat) (ds : List D) (k : α → M β) : (M.exc c ds : M α).bnd k = .exc c ds := rfl
@[simp] theorem bnd_stuck {α β : Type} (k : α → M β) : (M.stuck : M α).bnd k = .stuck := rfl

/-- what must not raise -/
def M.noexc {α : Type} : M α → M α
  | .ret a => .ret a
  | .exc _ _ => .stuck
  | .stuck => .stuck
  | .draw n k => .draw n fun v => (k v).noexc
@[simp] theorem noexc_ret {α : Type} (a : α) : (M.ret a).noexc = .ret a := rfl
@[simp] theorem noexc_exc {α : Type} (c : Nat) (ds : List D) : (M.exc c ds : M α).noexc = .stuck := rfl
@[simp] theorem noexc_stuck {α : Type} : (M.stuck : M α).noexc = .stuck := rfl
theorem M.wp_noexc {α : Type} : ∀ (m : M α) (Q : α → Prop) (E : Nat → List D → Prop), m.noexc.wp Q E ↔ m.wp Q (fun _ _ => False)
  | .ret _, _, _ => Iff.rfl
  | .exc _ _, _, _ => Iff.rfl
  | .stuck, _, _ => Iff.rfl
  | .draw n k, Q, E => by
    show (_ ∧ ∀ v, 0 ≤ v → v < n → (k v).noexc.wp Q E) ↔ (_ ∧ ∀ v, 0 ≤ v → v < n → (k v).wp Q _)
    exact ⟨fun ⟨a, b⟩ => ⟨a, fun v h0 h1 => (M.wp_noexc (k v) Q E).mp (b v h0 h1)⟩, fun ⟨a, b⟩ => ⟨a, fun v h0 h1 => (M.wp_noexc (k v) Q E).mpr (b v h0 h1)⟩⟩
theorem M.wpb_noexc {α : Type} : ∀ (m : M α) {b : Nat} {Q : α → Nat → Prop} {E : Nat → List D → Nat → Prop}, m.noexc.wpb b Q E → ∀ {E' : Nat → List D → Nat → Prop}, m.wpb b Q E'
  | .ret _, _, _, _, h, _ => h
  | .exc _ _, _, _, _, h, _ => h.elim
  | .stuck, _, _, _, h, _ => h
  | .draw n k, _, _, _, ⟨h1, b', e, h⟩, _ => ⟨h1, b', e, fun v h0 h2 => (k v).wpb_noexc (h v h0 h2)⟩
theorem M.few_noexc {α : Type} : ∀ (m : M α) {c : Nat}, m.few c → m.noexc.few c
  | .ret _, _, _ => True.intro
  | .exc _ _, _, _ => True.intro
  | .stuck, _, _ => True.intro
  | .draw n k, _, ⟨d, e, f⟩ => ⟨d, e, fun v h0 h1 => (k v).few_noexc (f v h0 h1)⟩

/-! ### data -/
mutual
/-- as the library's data, where it is such -/
def D.py : D → Option PyData
  | .non => some .none
  | .bl b => some (.bool b)
  | .int i => some (.int i)
  | .str cs => some (.str ⟨cs.toArray⟩)
  | .lst ds => (D.pys ds).map .list
  | .tup ds => (D.pys ds).map .tuple
  | .dct _ _ => none
  | .ins _ _ => none
  | .fn _ => none
  | .pen => none
def D.pys : List D → Option (List PyData)
  | [] => some []
  | d :: ds => match D.py d, D.pys ds with
    | some x, some xs => some (x :: xs)
    | _, _ => none
end
mutual
/-- a bound for the length of what repr writes -/
def D.sz : D → Nat
  | .non => 4
  | .bl _ => 5
  | .int i => i.natAbs.log2 + 3
  | .str cs => 10 * cs.length + 2
  | .lst ds => D.szs ds + 3
  | .tup ds => D.szs ds + 3
  | .dct _ _ => 0
  | .ins _ _ => 0
  | .fn _ => 0
  | .pen => 0
def D.szs : List D → Nat
  | [] => 0
  | d :: ds => D.sz d + 2 + D.szs ds
end

mutual
/-- what repr can write -/
def D.okr : D → Bool
  | .non => true
  | .bl _ => true
  | .int i => decide (i.natAbs.log2 < 1920)
  | .str cs => cs.all fun c => decide (c < 4294967296)
  | .lst ds => D.okrs ds
  | .tup ds => D.okrs ds
  | .dct _ _ => false
  | .ins _ _ => false
  | .fn _ => false
  | .pen => false
def D.okrs : List D → Bool
  | [] => true
  | d :: ds => D.okr d && D.okrs ds
end
mutual
def D.dep : D → Nat
  | .lst ds => D.deps ds + 1
  | .tup ds => D.deps ds + 1
  | .non => 0
  | .bl _ => 0
  | .int _ => 0
  | .str _ => 0
  | .dct _ _ => 0
  | .ins _ _ => 0
  | .fn _ => 0
  | .pen => 0
def D.deps : List D → Nat
  | [] => 0
  | d :: ds => max (D.dep d) (D.deps ds)
end

inductive BinO where
  | add | sub | mul | fdiv | mod | pow
  deriving DecidableEq
inductive CmpO where
  | eq | ne | lt | le | gt | ge | isN | notN | isIn | notIn
  deriving DecidableEq
inductive Bi where
  | len | repr | int | abs | all | sum | tuple | list | max | min
  deriving DecidableEq
inductive Ty where
  | int | bool | str | list | tuple | dict
  deriving DecidableEq
inductive Wk where
  | val | range | enum | zip
  deriving DecidableEq
inductive Pat where
  | name (i : Nat) | nil | cons (p q : Pat)

def lim : Nat := 16777216
/-- what must be there -/
def M.opt {α β : Type} (o : Option α) (k : α → M β) : M β := match o with
  | some a => k a
  | none => .stuck
@[simp] theorem opt_some {α β : Type} (a : α) (k : α → M β) : M.opt (some a) k = k a := rfl
@[simp] theorem opt_none {α β : Type} (k : α → M β) : M.opt (none : Option α) k = .stuck := rfl
theorem wp_opt {α β : Type} {o : Option α} {k : α → M β} {Q : β → Prop} {E : Nat → List D → Prop} : (M.opt o k).wp Q E ↔ ∃ a, o = some a ∧ (k a).wp Q E := by
  cases o with
  | none => exact ⟨fun h => h.elim, fun ⟨_, e, _⟩ => by cases e⟩
  | some a => exact ⟨fun h => ⟨a, rfl, h⟩, fun ⟨_, e, h⟩ => by cases e; exact h⟩
theorem wpb_opt {α β : Type} {o : Option α} {k : α → M β} {b : Nat} {Q : β → Nat → Prop} {E : Nat → List D → Nat → Prop} : (M.opt o k).wpb b Q E ↔ ∃ a, o = some a ∧ (k a).wpb b Q E := by
  cases o with
  | none => exact ⟨fun h => h.elim, fun ⟨_, e, _⟩ => by cases e⟩
  | some a => exact ⟨fun h => ⟨a, rfl, h⟩, fun ⟨_, e, h⟩ => by cases e; exact h⟩
theorem M.few_opt {α β : Type} (o : Option α) {k : α → M β} {c : Nat} (h : ∀ a, (k a).few c) : (M.opt o k).few c := by
  cases o with
  | none => exact True.intro
  | some a => exact h a

/-- truth -/
def truD : D → Option Bool
  | .non => some false
  | .bl b => some b
  | .int i => some (i != 0)
  | .str cs => if cs.length ≤ lim then some (!cs.isEmpty) else none
  | .lst ds => some (!ds.isEmpty)
  | .tup ds => some (!ds.isEmpty)
  | .dct ks _ => some (!ks.isEmpty)
  | _ => none

/-- flat things, as «in» tells them apart -/
def flatD : D → Bool
  | .non => true
  | .bl _ => true
  | .int _ => true
  | .str _ => true
  | _ => false
def eqF : D → D → Bool
  | .non, .non => true
  | .bl a, .bl b => a == b
  | .bl a, .int b => (if a then 1 else 0) == b
  | .int a, .bl b => a == (if b then 1 else 0)
  | .int a, .int b => a == b
  | .str a, .str b => a == b
  | _, _ => false
/-- strings are of plain signs, nothing is too deep -/
def okEq (d : D) : Bool := match d.py with
  | some x => SeqAt.shaped x
  | none => false
def isDct : D → Bool
  | .dct _ _ => true
  | _ => false
def isSeq : D → Bool
  | .lst _ => true
  | .tup _ => true
  | _ => false
def eqD (a b : D) : Option Bool :=
  if flatD a && flatD b then some (eqF a b)
  else if isDct a && isSeq b then some false
  else match a.py, b.py with
    | some x, some y => if SeqAt.shaped x && SeqAt.shaped y then some (PyData.eqv x y) else none
    | _, _ => none

def isIntOk (i j : Int) : Bool := decide (i.natAbs < 2 ^ 64) || decide (j.natAbs < 2 ^ 64) || decide (i.natAbs.log2 + j.natAbs.log2 < 1000000)
def binD : BinO → D → D → Option D
  | .add, .int i, .int j => some (.int (i + j))
  | .add, .str a, .str b => if a.length + b.length ≤ lim then some (.str (a ++ b)) else none
  | .add, .lst a, .lst b => if a.length + b.length ≤ lim then some (.lst (a ++ b)) else none
  | .sub, .int i, .int j => some (.int (i - j))
  | .mul, .int i, .int j => if isIntOk i j then some (.int (i * j)) else none
  | .mul, .lst a, .int k => if (0 ≤ k ∧ k.toNat ≤ lim) ∧ a.length * k.toNat ≤ lim then some (.lst (List.replicate k.toNat a).flatten) else none
  | .fdiv, .int i, .int j => if j ≠ 0 ∧ j.natAbs.log2 < 9000 then some (.int (i.fdiv j)) else none
  | .mod, .int i, .int j => if 0 < j then some (.int (i % j)) else none
  | .pow, .int i, .int j => if (0 ≤ j ∧ j ≤ 1000000 ∧ i.natAbs < 2 ^ 64) ∨ (0 ≤ j ∧ j ≤ 60 ∧ i.natAbs < 2 ^ 20000) then some (.int (i ^ j.toNat)) else none
  | _, _, _ => none
def negD : D → Option D
  | .int i => some (.int (-i))
  | _ => none
def lenOk (cs : List Nat) : Bool := decide (cs.length ≤ lim)
def inD (x y : D) : Option Bool := match x, y with
  | .str [c], .str z => some (decide (c ∈ z))
  | x, .lst ds => if flatD x && ds.all flatD then some (ds.any fun y => eqF y x) else none
  | x, .tup ds => if flatD x && ds.all flatD then some (ds.any fun y => eqF y x) else none
  | _, _ => none
def isN : D → Bool
  | .non => true
  | _ => false
def cmpD : CmpO → D → D → Option Bool
  | .eq, a, b => eqD a b
  | .ne, a, b => if isDct a then none else (eqD a b).map not
  | .lt, .int i, .int j => some (decide (i < j))
  | .le, .int i, .int j => some (decide (i ≤ j))
  | .gt, .int i, .int j => some (decide (j < i))
  | .ge, .int i, .int j => some (decide (j ≤ i))
  | .isN, a, .non => some (isN a)
  | .notN, a, .non => some (!isN a)
  | .isIn, a, b => inD a b
  | .notIn, a, b => (inD a b).map not
  | _, _, _ => none
def tyD : Ty → D → Option Bool
  | .int, .int _ => some true
  | .int, .bl _ => some true
  | .bool, .bl _ => some true
  | .str, .str _ => some true
  | .list, .lst _ => some true
  | .tuple, .tup _ => some true
  | .dict, .dct _ _ => some true
  | _, .ins _ _ => none
  | _, .fn _ => none
  | _, .pen => none
  | _, _ => some false
/-- the items of an argument that is walked -/
def itemsD : D → Option (List D)
  | .lst ds => some ds
  | .tup ds => some ds
  | .str cs => if cs.length ≤ lim then some (cs.map fun c => .str [c]) else none
  | _ => none
def bls : List D → Option (List Bool)
  | [] => some []
  | .bl b :: ds => (bls ds).map (b :: ·)
  | _ => none
def intsD : List D → Option (List Int)
  | [] => some []
  | .int b :: ds => (intsD ds).map (b :: ·)
  | _ => none
def reprD (d : D) : Option D := match d.py with
  | some x => if d.okr && decide (d.sz ≤ lim) && decide (d.dep ≤ 64) then some (.str x.shown.cps.toList) else none
  | none => none
def biD : Bi → List D → Option D
  | .len, [.str cs] => if cs.length ≤ lim then some (.int cs.length) else none
  | .len, [.lst ds] => some (.int ds.length)
  | .len, [.tup ds] => some (.int ds.length)
  | .len, [.dct ks _] => some (.int ks.length)
  | .repr, [d] => reprD d
  | .int, [.int i] => some (.int i)
  | .int, [.bl b] => some (.int (if b then 1 else 0))
  | .abs, [.int i] => some (.int i.natAbs)
  | .all, [.lst ds] => match bls ds with
    | some bs => some (.bl (bs.all id))
    | none => none
  | .sum, [.lst ds] => match intsD ds with
    | some ns => some (.int ns.sum)
    | none => none
  | .tuple, [.lst ds] => some (.tup ds)
  | .tuple, [.tup ds] => some (.tup ds)
  | .list, [.lst ds] => some (.lst ds)
  | .list, [.tup ds] => some (.lst ds)
  | .max, [.int a, .int b] => some (.int (if b > a then b else a))
  | .min, [.int a, .int b] => some (.int (if b < a then b else a))
  | _, _ => none

inductive Me where
  | join | append | index
  deriving DecidableEq
def strsD : List D → Option (List (List Nat))
  | [] => some []
  | .str b :: ds => (strsD ds).map (b :: ·)
  | _ => none
def joinL (sep : List Nat) : List (List Nat) → List Nat
  | [] => []
  | [x] => x
  | x :: y :: r => x ++ sep ++ joinL sep (y :: r)
/-- methods that change nothing -/
def meD : Me → D → List D → Option D
  | .join, .str sep, [.lst ds] => match strsD ds with
    | some ts => if (ts.map List.length).sum + ts.length * sep.length ≤ lim then some (.str (joinL sep ts)) else none
    | none => none
  | _, _, _ => none

def subD : D → D → Option D
  | .lst ds, .int i => match L2.atI ds i with
    | some d => some d
    | none => none
  | .tup ds, .int i => match L2.atI ds i with
    | some d => some d
    | none => none
  | .str cs, .int i => if cs.length ≤ lim then match L2.atI cs i with
    | some c => some (.str [c])
    | none => none
    else none
  | _, _ => none
def cutL {α : Type} (xs : List α) (lo hi : Option Int) : List α := (xs.drop (HT.sIx xs.length 0 lo)).take (HT.sIx xs.length xs.length hi - HT.sIx xs.length 0 lo)
def sliceD : D → Option Int → Option Int → Option D
  | .lst ds, lo, hi => some (.lst (cutL ds lo hi))
  | .tup ds, lo, hi => some (.tup (cutL ds lo hi))
  | .str cs, lo, hi => if cs.length ≤ lim then some (.str (cutL cs lo hi)) else none
  | _, _, _ => none
end RL
end

section
set_option Elab.async false
set_option linter.all false
/-! RL2: code and its meaning. Own work. -/
namespace RL
open PySem

inductive Ex where
  | nil | cons (h t : Ex)
  | var (i : Nat)
  | dat (d : D)
  | glb (x : Str) (d : D)
  | bin (o : BinO) (a b : Ex)
  | neg (a : Ex)
  | cmp (o : CmpO) (a b : Ex)
  | chain (o p : CmpO) (a b c : Ex)
  | and (a b : Ex) | or (a b : Ex) | not (a : Ex)
  | ite (c a b : Ex)
  | call (f : Nat) (as : Ex)
  | calls (f : Nat) (as : Ex)
  | rev (a : Ex)
  | catM (a b : Ex)
  | repM (a n : Ex)
  | callk (f : Nat) (perm : List Nat) (as ks : Ex)
  | bi (b : Bi) (as : Ex)
  | isi (a : Ex) (ts : List Ty)
  | draw (p n : Ex)
  | me (m : Me) (o as : Ex)
  | sub (a i : Ex)
  | slice (a lo hi : Ex)
  | lst (m : Bool) (es : Ex)
  | tup (es : Ex)
  | comp (m chk : Bool) (pt : Pat) (k : Wk) (src cond elt : Ex)
  | frz (a : Ex)
  | dct0

inductive St where
  | nil | cons (s t : St)
  | asg (i : Nat) (e : Ex)
  | asgP (p : Pat) (e : Ex)
  | ife (c : Ex) (a b : St)
  | forr (chk : Bool) (pt : Pat) (k : Wk) (src : Ex) (body : St)
  | whl (gas : Nat) (c : Ex) (body : St)
  | ret (e : Ex) | retN | expr (e : Ex) | brk | cont | pass
  | setI (o i e : Ex)
  | app (i : Nat) (e : Ex)
  | asgT (ts es : Ex)
  | never

inductive Fl where
  | nx | rt (w : W) | bk | ct

/-- what is read of a value -/
def rdW : W → Sto → Option D
  | .d x, _ => some x
  | .r n, S => match S[n]? with
    | some (.lst ds) => some (.lst ds)
    | _ => none
/-- data alone -/
def datW : W → Option D
  | .d x => some x
  | .r _ => none
def mapO {α β : Type} (f : α → Option β) : List α → Option (List β)
  | [] => some []
  | a :: as => match f a, mapO f as with
    | some b, some bs => some (b :: bs)
    | _, _ => none

def Pat.slots : Pat → List Nat
  | .name i => [i]
  | .nil => []
  | .cons p q => p.slots ++ q.slots
/-- how many parts a tuple pattern has -/
def Pat.wide : Pat → Nat
  | .cons _ q => q.wide + 1
  | _ => 0
mutual
/-- a pattern takes a value; a tuple pattern a tuple's (a list's) parts -/
def bindP : Pat → D → EnvD → Option EnvD
  | .name i, d, env => if i < env.length then some (env.set i (some (.d d))) else none
  | .nil, .tup ds, env => if ds.isEmpty then some env else none
  | .cons p q, .tup ds, env => bindPs (.cons p q) ds env
  | _, _, _ => none
def bindPs : Pat → List D → EnvD → Option EnvD
  | .nil, [], env => some env
  | .cons p q, d :: ds, env => match bindP p d env with
    | some env' => bindPs q ds env'
    | none => none
  | _, _, _ => none
end

/-- lo, lo + 1, .., n of them -/
def upD (lo : Int) : Nat → List D
  | 0 => []
  | n + 1 => .int lo :: upD (lo + 1) n
def enumD : Int → List D → List D
  | _, [] => []
  | i, d :: ds => .tup [.int i, d] :: enumD (i + 1) ds
def zipD : List D → List D → List D
  | a :: as, b :: bs => .tup [a, b] :: zipD as bs
  | _, _ => []
def small (i : Int) : Bool := decide (-(2 ^ 24) ≤ i) && decide (i ≤ 2 ^ 24)
/-- the items of a loop -/
def walkD : Wk → List D → Option (List D)
  | .val, [d] => itemsD d
  | .range, [.int n] => if small n then some (upD 0 n.toNat) else none
  | .range, [.int a, .int b] => if small a && small b then some (upD a (b - a).toNat) else none
  | .enum, [.lst ds] => some (enumD 0 ds)
  | .zip, [.lst as, .lst bs] => some (zipD as bs)
  | _, _ => none

def setW (env : EnvD) (i : Nat) (w : W) : Option EnvD := if i < env.length then some (env.set i (some w)) else none
/-- a comprehension's turns: acc what is made so far -/
def compL (f : EnvD → Sto → M (Option D × Sto)) (pt : Pat) (env : EnvD) : List D → List D → Sto → M (List D × Sto)
  | [], acc, S => .ret (acc, S)
  | d :: ds, acc, S => match bindP pt d env with
    | none => .stuck
    | some env' => (f env' S).noexc.bnd fun r => match r.1 with
      | some y => if acc.length < lim then compL f pt env ds (acc ++ [y]) r.2 else .stuck
      | none => compL f pt env ds acc r.2
/-- a loop's turns -/
def forL (f : EnvD → Sto → M (Fl × EnvD × Sto)) (pt : Pat) : List D → EnvD → Sto → M (Fl × EnvD × Sto)
  | [], env, S => .ret (.nx, env, S)
  | d :: ds, env, S => match bindP pt d env with
    | none => .stuck
    | some env' => (f env' S).bnd fun r => match r.1 with
      | .nx => forL f pt ds r.2.1 r.2.2
      | .ct => forL f pt ds r.2.1 r.2.2
      | .bk => .ret (.nx, r.2.1, r.2.2)
      | .rt w => .ret (.rt w, r.2.1, r.2.2)
def whileL (c : EnvD → Sto → M (Bool × Sto)) (f : EnvD → Sto → M (Fl × EnvD × Sto)) : Nat → EnvD → Sto → M (Fl × EnvD × Sto)
  | 0, _, _ => .stuck
  | n + 1, env, S => (c env S).bnd fun t => if t.1 then (f env t.2).bnd fun r => match r.1 with
      | .nx => whileL c f n r.2.1 r.2.2
      | .ct => whileL c f n r.2.1 r.2.2
      | .bk => .ret (.nx, r.2.1, r.2.2)
      | .rt w => .ret (.rt w, r.2.1, r.2.2)
    else .ret (.nx, env, t.2)
/-- few enough items for a loop that draws -/
def fewD (chk : Bool) (ds : List D) : Bool := !chk || decide (ds.length ≤ lim)
/-- optional ends of a slice -/
def optI : List D → Option (Option Int)
  | [] => some none
  | [.int i] => some (some i)
  | _ => none
/-- keyword arguments: the value for parameter j is the perm[j]-th that was reckoned -/
def permD (perm : List Nat) (ds : List D) : Option (List D) :=
  if perm.length = ds.length then mapO (fun j => ds[j]?) perm else none

/-- of what kind a receiver must be -/
def meT : Me → W → Option Unit
  | .join, .d (.str _) => some ()
  | _, _ => none

/-- the calls of defs: values in and out, over the store -/
abbrev Calls := Nat → List W → Sto → M (W × Sto)
/-- a call with data alone, in a store of its own -/
def dcall (C : Calls) (f : Nat) (ds : List D) : M D := (C f (ds.map W.d) []).bnd fun r => M.opt (datW r.1) .ret
def revD : D → Option D
  | .lst ds => some (.lst ds.reverse)
  | _ => none
def newW (d : D) (S : Sto) : M (W × Sto) := match d with
  | .lst ds => .ret (.r S.length, S ++ [.lst ds])
  | _ => .stuck

variable (C : Calls)
mutual
def evE : Ex → EnvD → Sto → M (W × Sto)
  | .nil, _, _ => .stuck
  | .cons _ _, _, _ => .stuck
  | .var i, env, S => match env[i]? with
    | some (some w) => .ret (w, S)
    | _ => .stuck
  | .dat d, _, S => .ret (.d d, S)
  | .glb _ d, _, S => .ret (.d d, S)
  | .bin o a b, env, S => (evE a env S).bnd fun x => (evE b env x.2).bnd fun y => M.opt (rdW x.1 y.2) fun u => M.opt (rdW y.1 y.2) fun v => M.opt (binD o u v) fun z => .ret (.d z, y.2)
  | .neg a, env, S => (evE a env S).bnd fun x => M.opt (datW x.1) fun u => M.opt (negD u) fun z => .ret (.d z, x.2)
  | .cmp o a b, env, S => (evE a env S).bnd fun x => (evE b env x.2).bnd fun y => M.opt (rdW x.1 y.2) fun u => M.opt (rdW y.1 y.2) fun v => M.opt (cmpD o u v) fun z => .ret (.d (.bl z), y.2)
  | .chain o p a b c, env, S => (evE a env S).bnd fun x => (evE b env x.2).bnd fun y => M.opt (rdW x.1 y.2) fun u => M.opt (rdW y.1 y.2) fun v => M.opt (cmpD o u v) fun k =>
      if k then (evE c env y.2).bnd fun z => M.opt (rdW y.1 z.2) fun v' => M.opt (rdW z.1 z.2) fun q => M.opt (cmpD p v' q) fun l => .ret (.d (.bl l), z.2) else .ret (.d (.bl false), y.2)
  | .and a b, env, S => (evE a env S).bnd fun x => M.opt (rdW x.1 x.2) fun u => M.opt (truD u) fun k => if k then evE b env x.2 else .ret x
  | .or a b, env, S => (evE a env S).bnd fun x => M.opt (rdW x.1 x.2) fun u => M.opt (truD u) fun k => if k then .ret x else evE b env x.2
  | .not a, env, S => (evE a env S).bnd fun x => M.opt (rdW x.1 x.2) fun u => M.opt (truD u) fun k => .ret (.d (.bl (!k)), x.2)
  | .ite c a b, env, S => (evE c env S).bnd fun x => M.opt (rdW x.1 x.2) fun u => M.opt (truD u) fun k => if k then evE a env x.2 else evE b env x.2
  | .call f as, env, S => (evL as env S).bnd fun x => M.opt (mapO datW x.1) fun ds => (dcall C f ds).bnd fun z => .ret (.d z, x.2)
  | .calls f as, env, S => (evL as env S).bnd fun x => C f x.1 x.2
  | .rev a, env, S => (evE a env S).bnd fun x => M.opt (rdW x.1 x.2) fun u => M.opt (revD u) fun z => .ret (.d z, x.2)
  | .catM a b, env, S => (evE a env S).bnd fun x => (evE b env x.2).bnd fun y => M.opt (rdW x.1 y.2) fun u => M.opt (rdW y.1 y.2) fun v => M.opt (binD .add u v) fun z => newW z y.2
  | .repM a b, env, S => (evE a env S).bnd fun x => (evE b env x.2).bnd fun y => M.opt (rdW x.1 y.2) fun u => M.opt (rdW y.1 y.2) fun v => M.opt (binD .mul u v) fun z => newW z y.2
  | .callk f perm as ks, env, S => (evL as env S).bnd fun x => (evL ks env x.2).bnd fun y => M.opt (mapO datW x.1) fun ds => M.opt (mapO datW y.1) fun es => M.opt (permD perm (ds ++ es)) fun fs => (dcall C f fs).bnd fun z => .ret (.d z, y.2)
  | .bi b as, env, S => (evL as env S).bnd fun x => M.opt (mapO (rdW · x.2) x.1) fun ds => M.opt (biD b ds) fun z => .ret (.d z, x.2)
  | .isi a ts, env, S => (evE a env S).bnd fun x => M.opt (rdW x.1 x.2) fun u => M.opt (mapO (tyD · u) ts) fun ks => .ret (.d (.bl (ks.any id)), x.2)
  | .draw p n, env, S => (evE p env S).bnd fun x => (evE n env x.2).bnd fun y => match x.1, y.1 with
    | .d .pen, .d (.int k) => .draw k fun v => .ret (.d (.int v), y.2)
    | _, _ => .stuck
  | .me m o as, env, S => (evE o env S).bnd fun x => M.opt (meT m x.1) fun _ => (evL as env x.2).bnd fun y => M.opt (rdW x.1 y.2) fun u => M.opt (mapO (rdW · y.2) y.1) fun ds => M.opt (meD m u ds) fun z => .ret (.d z, y.2)
  | .sub a i, env, S => (evE a env S).bnd fun x => (evE i env x.2).bnd fun y => M.opt (rdW x.1 y.2) fun u => M.opt (datW y.1) fun v => M.opt (subD u v) fun z => .ret (.d z, y.2)
  | .slice a lo hi, env, S => (evE a env S).bnd fun x => (evL lo env x.2).bnd fun y => M.opt (mapO datW y.1) fun l => M.opt (optI l) fun i => (evL hi env y.2).bnd fun z => M.opt (mapO datW z.1) fun h => M.opt (optI h) fun j =>
      M.opt (rdW x.1 z.2) fun u => M.opt (sliceD u i j) fun q => .ret (.d q, z.2)
  | .lst m es, env, S => (evL es env S).bnd fun x => M.opt (mapO datW x.1) fun ds => if ds.length ≤ lim then (if m then .ret (.r x.2.length, x.2 ++ [.lst ds]) else .ret (.d (.lst ds), x.2)) else .stuck
  | .tup es, env, S => (evL es env S).bnd fun x => M.opt (mapO datW x.1) fun ds => if ds.length ≤ lim then .ret (.d (.tup ds), x.2) else .stuck
  | .comp m chk pt k src cond elt, env, S => (evL src env S).bnd fun x => M.opt (mapO datW x.1) fun ds => M.opt (walkD k ds) fun its => if fewD chk its then
      (compL (fun env' S' => (evE cond env' S').bnd fun c => M.opt (rdW c.1 c.2) fun u => M.opt (truD u) fun t => if t then (evE elt env' c.2).bnd fun y => M.opt (datW y.1) fun v => .ret (some v, y.2) else .ret (none, c.2)) pt env its [] x.2).bnd fun r =>
        if m then .ret (.r r.2.length, r.2 ++ [.lst r.1]) else .ret (.d (.lst r.1), r.2) else .stuck
  | .dct0, _, S => .ret (.d (.dct [] []), S)
  | .frz a, env, S => (evE a env S).bnd fun x => match x.1 with
    | .d u => .ret (.d u, x.2)
    | .r n => match x.2[n]? with
      | some (.lst ds) => .ret (.d (.lst ds), x.2.set n .dead)
      | _ => .stuck
def evL : Ex → EnvD → Sto → M (List W × Sto)
  | .nil, _, S => .ret ([], S)
  | .cons h t, env, S => (evE h env S).bnd fun x => (evL t env x.2).bnd fun y => .ret (x.1 :: y.1, y.2)
  | _, _, _ => .stuck
end

def tstE (a : Ex) (env : EnvD) (S : Sto) : M (Bool × Sto) := (evE C a env S).bnd fun x => M.opt (rdW x.1 x.2) fun u => M.opt (truD u) fun k => .ret (k, x.2)

/-- a value goes to a target -/
def stoX : Ex → W → EnvD → Sto → M (EnvD × Sto)
  | .var i, x, env, S => M.opt (setW env i x) fun env' => .ret (env', S)
  | .sub o i, x, env, S => (evE C o env S).bnd fun y => (evE C i env y.2).bnd fun z => M.opt (datW x) fun v => M.opt (datW z.1) fun j => match y.1, j with
    | .r n, .int j => match z.2[n]? with
      | some (.lst ds) => match L2.ixN ds.length j with
        | some q => .ret (env, z.2.set n (.lst (ds.set q v)))
        | none => .stuck
      | _ => .stuck
    | _, _ => .stuck
  | _, _, _, _ => .stuck
def stoXs : Ex → List W → EnvD → Sto → M (EnvD × Sto)
  | .nil, [], env, S => .ret (env, S)
  | .cons t ts, x :: xs, env, S => (stoX C t x env S).bnd fun r => stoXs ts xs r.1 r.2
  | _, _, _, _ => .stuck
def exB : St → EnvD → Sto → M (Fl × EnvD × Sto)
  | .nil, env, S => .ret (.nx, env, S)
  | .cons s t, env, S => (exB s env S).bnd fun r => match r.1 with
    | .nx => exB t r.2.1 r.2.2
    | _ => .ret r
  | .asg i e, env, S => (evE C e env S).bnd fun x => M.opt (setW env i x.1) fun env' => .ret (.nx, env', x.2)
  | .asgP p e, env, S => (evE C e env S).bnd fun x => M.opt (datW x.1) fun d => match bindP p d env with
    | some env' => .ret (.nx, env', x.2)
    | none => .stuck
  | .ife c a b, env, S => (tstE C c env S).bnd fun t => if t.1 then exB a env t.2 else exB b env t.2
  | .forr chk pt k src body, env, S => (evL C src env S).bnd fun x => M.opt (mapO datW x.1) fun ds => M.opt (walkD k ds) fun its =>
      if fewD chk its then forL (fun env' S' => exB body env' S') pt its env x.2 else .stuck
  | .whl gas c body, env, S => whileL (fun env' S' => tstE C c env' S') (fun env' S' => exB body env' S') gas env S
  | .ret e, env, S => (evE C e env S).bnd fun x => .ret (.rt x.1, env, x.2)
  | .retN, env, S => .ret (.rt (.d .non), env, S)
  | .expr e, env, S => (evE C e env S).bnd fun x => .ret (.nx, env, x.2)
  | .brk, env, S => .ret (.bk, env, S)
  | .cont, env, S => .ret (.ct, env, S)
  | .pass, env, S => .ret (.nx, env, S)
  | .setI o i e, env, S => (evE C e env S).bnd fun x => (evE C o env x.2).bnd fun y => (evE C i env y.2).bnd fun z => M.opt (datW x.1) fun v => M.opt (datW z.1) fun j => match y.1, j with
    | .r n, .int j => match z.2[n]? with
      | some (.lst ds) => match L2.ixN ds.length j with
        | some q => .ret (.nx, env, z.2.set n (.lst (ds.set q v)))
        | none => .stuck
      | _ => .stuck
    | _, _ => .stuck
  | .app i e, env, S => match env[i]? with
    | some (some (.r n)) => match S[n]? with
      | some (.lst _) => (evE C e env S).bnd fun x => M.opt (datW x.1) fun v => match x.2[n]? with
        | some (.lst ds) => if ds.length < lim then .ret (.nx, env, x.2.set n (.lst (ds ++ [v]))) else .stuck
        | _ => .stuck
      | _ => .stuck
    | _ => .stuck
  | .asgT ts es, env, S => (evL C es env S).bnd fun x => if x.1.length ≤ lim then (stoXs C ts x.1 env x.2).bnd fun r => .ret (.nx, r.1, r.2) else .stuck
  | .never, _, _ => .stuck

/-- a def: its parameters are the first slots -/
structure Fn where
  pars : Nat
  slots : Nat
  body : St

/-- a call -/
def run (T : Nat → Option Fn) : Nat → Calls
  | 0, _, _, _ => .stuck
  | n + 1, f, ws, S => match T f with
    | none => .stuck
    | some g => if ws.length = g.pars then
        (exB (run T n) g.body (ws.map some ++ List.replicate (g.slots - ws.length) none) S).bnd fun r => match r.1 with
          | .rt w => .ret (w, r.2.2)
          | .nx => .ret (.d .non, r.2.2)
          | _ => .stuck
      else .stuck
end RL
end

section
set_option Elab.async false
set_option linter.all false
/-! RL3: what data stands for in the abstract heap; worlds. Own work. -/
namespace RL
open PySem PySem.Spec PyProof.Rows L2

/-- what is known of the text: where its defs stand -/
structure Gam where
  K : PySem.W.Frag
  fnA : Nat → Addr
  clsV : Nat → Value

mutual
def RepV (G : Gam) (p : Option Addr) (B : Hp) : D → V → Prop
  | .non, v => v = .non
  | .bl b, v => v = .bl b
  | .int i, v => v = .int i
  | .str cs, v => v = .str ⟨cs.toArray⟩
  | .lst ds, v => ∃ a xs, v = .ref a ∧ B a = some (.lst xs) ∧ RepL G p B ds xs
  | .tup ds, v => ∃ a xs, v = .ref a ∧ B a = some (.tup xs) ∧ RepL G p B ds xs
  | .dct ks vs, v => ∃ a kvs, v = .ref a ∧ B a = some (.dK kvs) ∧ RepL G p B ks (kvs.map fun kv => kV kv.1) ∧ RepL G p B vs (kvs.map Prod.snd)
  | .ins _ _, _ => False
  | .fn i, v => v = .ref (G.fnA i)
  | .pen, v => ∃ q, p = some q ∧ v = .ref q
def RepL (G : Gam) (p : Option Addr) (B : Hp) : List D → List V → Prop
  | [], xs => xs = []
  | d :: ds, xs => ∃ v vs, xs = v :: vs ∧ RepV G p B d v ∧ RepL G p B ds vs
end

def Sub (B B' : Hp) : Prop := ∀ a o, B a = some o → B' a = some o
theorem Sub.refl (B : Hp) : Sub B B := fun _ _ h => h
theorem Sub.trans {B B1 B2 : Hp} (a : Sub B B1) (b : Sub B1 B2) : Sub B B2 := fun x o h => b x o (a x o h)
theorem Sub.rd {B B' : Hp} {a : Addr} {o : HO} (s : Sub B B') (h : Rd B a o) : Rd B' a o := by
  rcases h with h | ⟨u, h⟩
  · exact .inl (s _ _ h)
  · exact .inr ⟨u, s _ _ h⟩
theorem Sub.sqL {K : PySem.W.Frag} {B B' : Hp} {a : Addr} {xs : List V} (s : Sub B B') (h : SqL K B a xs) : SqL K B' a xs := h.elim (fun h => .inl (s.rd h)) .inr
theorem Sub.sqT {K : PySem.W.Frag} {B B' : Hp} {a : Addr} {xs : List V} (s : Sub B B') (h : SqT K B a xs) : SqT K B' a xs := h.elim (fun h => .inl (s.rd h)) .inr

section
variable {G : Gam} {p : Option Addr} {B B' : Hp}
mutual
theorem RepV.mono (s : Sub B B') : ∀ (d : D) (v : V), RepV G p B d v → RepV G p B' d v
  | .non, _, h => by simpa only [RepV] using h
  | .bl _, _, h => by simpa only [RepV] using h
  | .int _, _, h => by simpa only [RepV] using h
  | .str _, _, h => by simpa only [RepV] using h
  | .lst ds, v, h => by
    simp only [RepV] at h ⊢
    obtain ⟨a, xs, e, h1, h2⟩ := h
    exact ⟨a, xs, e, s _ _ h1, RepL.mono s ds xs h2⟩
  | .tup ds, v, h => by
    simp only [RepV] at h ⊢
    obtain ⟨a, xs, e, h1, h2⟩ := h
    exact ⟨a, xs, e, s _ _ h1, RepL.mono s ds xs h2⟩
  | .dct ks vs, v, h => by
    simp only [RepV] at h ⊢
    obtain ⟨a, kvs, e, h1, h2, h3⟩ := h
    exact ⟨a, kvs, e, s _ _ h1, RepL.mono s ks _ h2, RepL.mono s vs _ h3⟩
  | .ins _ _, _, h => by simp only [RepV] at h
  | .fn _, _, h => by simpa only [RepV] using h
  | .pen, _, h => by simpa only [RepV] using h
theorem RepL.mono (s : Sub B B') : ∀ (ds : List D) (xs : List V), RepL G p B ds xs → RepL G p B' ds xs
  | [], _, h => by simpa only [RepL] using h
  | d :: ds, xs, h => by
    simp only [RepL] at h ⊢
    obtain ⟨v, vs, e, h1, h2⟩ := h
    exact ⟨v, vs, e, RepV.mono s d v h1, RepL.mono s ds vs h2⟩
end
theorem RepL.length : ∀ {ds : List D} {xs : List V}, RepL G p B ds xs → xs.length = ds.length
  | [], _, h => by simp only [RepL] at h; subst h; rfl
  | d :: ds, _, h => by
    simp only [RepL] at h
    obtain ⟨v, vs, rfl, _, h2⟩ := h
    simp only [List.length_cons, RepL.length h2]
theorem RepL.get : ∀ {ds : List D} {xs : List V} {i : Nat} {d : D}, RepL G p B ds xs → ds[i]? = some d → ∃ v, xs[i]? = some v ∧ RepV G p B d v
  | [], _, _, _, _, e => by simp at e
  | d :: ds, _, 0, d', h, e => by
    simp only [RepL] at h
    obtain ⟨v, vs, rfl, h1, _⟩ := h
    simp only [List.getElem?_cons_zero, Option.some.injEq] at e
    subst e
    exact ⟨v, rfl, h1⟩
  | d :: ds, _, i + 1, d', h, e => by
    simp only [RepL] at h
    obtain ⟨v, vs, rfl, _, h2⟩ := h
    rw [List.getElem?_cons_succ] at e
    obtain ⟨u, e1, r⟩ := RepL.get h2 e
    exact ⟨u, by rw [List.getElem?_cons_succ]; exact e1, r⟩
theorem RepL.at_ : ∀ {ds : List D} {xs : List V} {i : Nat} {v : V}, RepL G p B ds xs → xs[i]? = some v → ∃ d, ds[i]? = some d ∧ RepV G p B d v
  | [], _, i, v, h, e => by simp only [RepL] at h; subst h; simp at e
  | d :: ds, _, 0, v', h, e => by
    simp only [RepL] at h
    obtain ⟨v, vs, rfl, h1, _⟩ := h
    simp only [List.getElem?_cons_zero, Option.some.injEq] at e
    subst e
    exact ⟨d, rfl, h1⟩
  | d :: ds, _, i + 1, v', h, e => by
    simp only [RepL] at h
    obtain ⟨v, vs, rfl, _, h2⟩ := h
    rw [List.getElem?_cons_succ] at e
    obtain ⟨u, e1, r⟩ := RepL.at_ h2 e
    exact ⟨u, by rw [List.getElem?_cons_succ]; exact e1, r⟩
theorem RepL.app : ∀ {ds es : List D} {xs ys : List V}, RepL G p B ds xs → RepL G p B es ys → RepL G p B (ds ++ es) (xs ++ ys)
  | [], _, _, _, h, k => by simp only [RepL] at h; subst h; exact k
  | d :: ds, _, _, _, h, k => by
    simp only [RepL] at h
    obtain ⟨v, vs, rfl, h1, h2⟩ := h
    exact ⟨v, vs ++ _, rfl, h1, RepL.app h2 k⟩
theorem RepL.take : ∀ (n : Nat) {ds : List D} {xs : List V}, RepL G p B ds xs → RepL G p B (ds.take n) (xs.take n)
  | 0, _, _, _ => by simp only [List.take_zero, RepL]
  | n + 1, [], _, h => by simp only [RepL] at h; subst h; simp only [List.take_nil, RepL]
  | n + 1, d :: ds, _, h => by
    simp only [RepL] at h
    obtain ⟨v, vs, rfl, h1, h2⟩ := h
    exact ⟨v, vs.take n, rfl, h1, RepL.take n h2⟩
theorem RepL.drop : ∀ (n : Nat) {ds : List D} {xs : List V}, RepL G p B ds xs → RepL G p B (ds.drop n) (xs.drop n)
  | 0, _, _, h => h
  | n + 1, [], _, h => by simp only [RepL] at h; subst h; simp only [List.drop_nil, RepL]
  | n + 1, d :: ds, _, h => by
    simp only [RepL] at h
    obtain ⟨v, vs, rfl, h1, h2⟩ := h
    exact RepL.drop n h2
theorem RepL.set : ∀ (n : Nat) {ds : List D} {xs : List V} {d : D} {v : V}, RepL G p B ds xs → RepV G p B d v → RepL G p B (ds.set n d) (xs.set n v)
  | _, [], _, _, _, h, _ => by simp only [RepL] at h; subst h; simp only [List.set_nil, RepL]
  | 0, d :: ds, _, _, _, h, r => by
    simp only [RepL] at h
    obtain ⟨v, vs, rfl, h1, h2⟩ := h
    exact ⟨_, vs, rfl, r, h2⟩
  | n + 1, d :: ds, _, _, _, h, r => by
    simp only [RepL] at h
    obtain ⟨v, vs, rfl, h1, h2⟩ := h
    exact ⟨v, vs.set n _, rfl, h1, RepL.set n h2 r⟩
end

/-- a world: the pen, the store's addresses, what stands still, all that is tracked -/
structure Wd where
  p : Option Addr
  ρ : List Addr
  B : Hp
  H : Hp

def RepW (G : Gam) (w : Wd) : W → V → Prop
  | .d x, v => RepV G w.p w.B x v
  | .r n, v => ∃ a, w.ρ[n]? = some a ∧ v = .ref a
def ObRep (G : Gam) (w : Wd) (a : Addr) : Ob → Prop
  | .lst ds => ∃ xs, w.H a = some (.lst xs) ∧ RepL G w.p w.B ds xs
  | .dead => True
/-- so many draws may come, so far has the pen gone -/
def bigN : Nat := 2 ^ 1000
def PenOk (w : Wd) (b : Nat) : Prop := ∀ q, w.p = some q → ∃ (c : Addr) (ns : List Int) (t g : Int), w.H q = some (.lst [.ref c, .int t, .int g]) ∧ w.B c = some (.lst (ns.map V.int)) ∧ 0 ≤ t ∧ t + (b : Int) ≤ (bigN : Int) ∧ 0 ≤ g

structure Ok (G : Gam) (w : Wd) (S : Sto) (b : Nat) : Prop where
  len : w.ρ.length = S.length
  sub : Sub w.B w.H
  nd : ∀ (i j : Nat) (a : Addr), w.ρ[i]? = some a → w.ρ[j]? = some a → i = j
  obs : ∀ (i : Nat) (a : Addr) (o : Ob), w.ρ[i]? = some a → S[i]? = some o → ObRep G w a o
  off : ∀ (i : Nat) (a : Addr) (ds : List D), w.ρ[i]? = some a → S[i]? = some (.lst ds) → w.B a = none
  tr : ∀ a ∈ w.ρ, ∃ o, w.H a = some o
  pen : PenOk w b
  pB : ∀ q, w.p = some q → w.B q = none
  pρ : ∀ q, w.p = some q → q ∉ w.ρ

structure Le (w w' : Wd) : Prop where
  p : w'.p = w.p
  ρ : ∃ more, w'.ρ = w.ρ ++ more ∧ ∀ a ∈ more, w.H a = none
  B : Sub w.B w'.B
  Bn : ∀ a o, w'.B a = some o → w.B a = some o ∨ w.H a = none ∨ a ∈ w.ρ
  H : ∀ a o, w.H a = some o → a ∉ w.ρ → w.p ≠ some a → w'.H a = some o
  T : ∀ a o, w.H a = some o → ∃ o', w'.H a = some o'
theorem Le.refl (w : Wd) : Le w w := ⟨rfl, ⟨[], by simp, fun _ h => by simp at h⟩, Sub.refl _, fun _ _ h => Or.inl h, fun _ _ h _ _ => h, fun a o h => ⟨o, h⟩⟩
theorem Le.none {w w' : Wd} (l : Le w w') {a : Addr} (h : w'.H a = none) : w.H a = none := by
  cases q : w.H a with
  | none => rfl
  | some o =>
    obtain ⟨o', e⟩ := l.T a o q
    rw [h] at e
    cases e
theorem Le.trans {w w1 w2 : Wd} (a : Le w w1) (b : Le w1 w2) : Le w w2 := by
  obtain ⟨m1, e1, n1⟩ := a.ρ
  obtain ⟨m2, e2, n2⟩ := b.ρ
  refine ⟨b.p.trans a.p, ⟨m1 ++ m2, by rw [e2, e1, List.append_assoc], fun x hx => ?_⟩, a.B.trans b.B, fun x o h => ?_, fun x o h h1 h2 => ?_, fun x o h => ?_⟩
  · rcases List.mem_append.mp hx with hx | hx
    · exact n1 x hx
    · exact a.none (n2 x hx)
  · rcases b.Bn x o h with h | h | h
    · exact a.Bn x o h
    · exact .inr (.inl (a.none h))
    · rw [e1] at h
      rcases List.mem_append.mp h with h | h
      · exact .inr (.inr h)
      · exact .inr (.inl (n1 x h))
  · have q := a.H x o h h1 h2
    refine b.H x o q (fun hm => ?_) (by rw [a.p]; exact h2)
    rw [e1] at hm
    rcases List.mem_append.mp hm with hm | hm
    · exact h1 hm
    · have z := n1 x hm
      rw [h] at z
      cases z
  · obtain ⟨o', q⟩ := a.T x o h
    exact b.T x o' q
theorem Le.rep {G : Gam} {w w' : Wd} (l : Le w w') {x : W} {v : V} (h : RepW G w x v) : RepW G w' x v := by
  cases x with
  | d x =>
    have h' : RepV G w.p w.B x v := h
    show RepV G w'.p w'.B x v
    rw [l.p]
    exact RepV.mono l.B x v h'
  | r n =>
    obtain ⟨a, e, q⟩ := h
    obtain ⟨m, e1, _⟩ := l.ρ
    refine ⟨a, ?_, q⟩
    have hn : n < w.ρ.length := (List.getElem?_eq_some_iff.mp e).1
    rw [e1, List.getElem?_append_left hn]
    exact e
theorem Le.repL {G : Gam} {w w' : Wd} (l : Le w w') {ds : List D} {xs : List V} (h : RepL G w.p w.B ds xs) : RepL G w'.p w'.B ds xs := by
  rw [l.p]
  exact RepL.mono l.B ds xs h

/-- the slots -/
structure RepE (G : Gam) (w : Wd) (env : EnvD) (σ : L2.St) : Prop where
  len : σ.length = env.length
  at_ : ∀ (i : Nat) (x : W), env[i]? = some (some x) → ∃ v, σ[i]? = some (some v) ∧ RepW G w x v
theorem RepE.le {G : Gam} {w w' : Wd} {env : EnvD} {σ : L2.St} (l : Le w w') (h : RepE G w env σ) : RepE G w' env σ :=
  ⟨h.len, fun i x e => let ⟨v, e1, r⟩ := h.at_ i x e; ⟨v, e1, l.rep r⟩⟩
theorem RepE.set {G : Gam} {w : Wd} {env : EnvD} {σ : L2.St} {i : Nat} {x : W} {v : V} (h : RepE G w env σ) (r : RepW G w x v) : RepE G w (env.set i (some x)) (σ.set i (some v)) := by
  refine ⟨by simp [h.len], fun j y e => ?_⟩
  by_cases hj : i = j
  · subst hj
    by_cases hl : i < env.length
    · rw [List.getElem?_set_self hl] at e
      cases e
      exact ⟨v, by rw [List.getElem?_set_self (by rw [h.len]; exact hl)], r⟩
    · rw [List.getElem?_eq_none (by simp; omega)] at e
      cases e
  · rw [List.getElem?_set_ne hj] at e
    obtain ⟨u, e1, r1⟩ := h.at_ j y e
    exact ⟨u, by rw [List.getElem?_set_ne hj]; exact e1, r1⟩

/-- several values -/
def RepWs (G : Gam) (w : Wd) : List W → List V → Prop
  | [], xs => xs = []
  | d :: ds, xs => ∃ v vs, xs = v :: vs ∧ RepW G w d v ∧ RepWs G w ds vs
theorem Le.repWs {G : Gam} {w w' : Wd} (l : Le w w') : ∀ {ds : List W} {xs : List V}, RepWs G w ds xs → RepWs G w' ds xs
  | [], _, h => h
  | d :: ds, _, ⟨v, vs, e, h1, h2⟩ => ⟨v, vs, e, l.rep h1, l.repWs h2⟩
theorem datW_some {x : W} {d : D} (h : datW x = some d) : x = .d d := by
  cases x with
  | d y => rw [show y = d from Option.some.inj h]
  | r n => cases h
theorem RepWs.dat {G : Gam} {w : Wd} : ∀ {ws : List W} {ds : List D} {xs : List V}, mapO datW ws = some ds → RepWs G w ws xs → RepL G w.p w.B ds xs
  | [], ds, xs, e, h => by
    have e' : ([] : List D) = ds := Option.some.inj e
    subst e'
    exact h
  | x :: ws, ds, xs, e, ⟨v, vs, e1, h1, h2⟩ => by
    unfold mapO at e
    cases hx : datW x with
    | none => rw [hx] at e; cases e
    | some d =>
      cases hs : mapO datW ws with
      | none => rw [hx, hs] at e; cases e
      | some ds' =>
        rw [hx, hs] at e
        have e' : d :: ds' = ds := Option.some.inj e
        subst e'
        have := datW_some hx
        subst this
        exact ⟨v, vs, e1, h1, RepWs.dat hs h2⟩
end RL
end

section
set_option Elab.async false
set_option linter.all false
/-! RL4: steps of worlds; readings. Own work. -/
namespace RL
open PySem PySem.Spec PyProof.Rows L2

theorem sub_upd {B : Hp} {a : Addr} {o : HO} (h : B a = none) : Sub B (upd B a o) := fun x u e => by
  rw [upd_ne (ne_of_none e h)]
  exact e
section
variable {G : Gam} {w : Wd} {S : Sto} {b : Nat}
theorem Ok.free (k : Ok G w S b) {a : Addr} (h : w.H a = none) : w.B a = none := by
  cases q : w.B a with
  | none => rfl
  | some o =>
    have := k.sub a o q
    rw [h] at this
    cases this
theorem Ok.pH (k : Ok G w S b) {q : Addr} (hq : w.p = some q) : ∃ o, w.H q = some o := by
  obtain ⟨c, ns, t, g, h, _⟩ := k.pen q hq
  exact ⟨_, h⟩
theorem Ok.notin (k : Ok G w S b) {a : Addr} (h : w.H a = none) : a ∉ w.ρ := fun hm => by
  obtain ⟨o, e⟩ := k.tr a hm
  rw [h] at e
  cases e
theorem Ok.nep (k : Ok G w S b) {a : Addr} (h : w.H a = none) : w.p ≠ some a := fun e => by
  obtain ⟨o, q⟩ := k.pH e
  rw [h] at q
  cases q
theorem Ok.neq (k : Ok G w S b) {a q : Addr} (hq : w.p = some q) (h : w.H a = none) : q ≠ a := fun e => k.nep h (by rw [hq, e])
theorem ObRep.mono {w' : Wd} {a : Addr} {o : Ob} (hp : w'.p = w.p) (hB : Sub w.B w'.B) (hH : w'.H a = w.H a) (h : ObRep G w a o) : ObRep G w' a o := by
  cases o with
  | lst ds =>
    obtain ⟨xs, e, r⟩ := h
    refine ⟨xs, hH.trans e, ?_⟩
    rw [hp]
    exact RepL.mono hB ds xs r
  | dead => exact True.intro
/-- fewer draws are left -/
theorem Ok.less {b' : Nat} (k : Ok G w S b) (h : b' ≤ b) : Ok G w S b' := by
  refine { k with pen := fun q hq => ?_ }
  obtain ⟨c, ns, t, g, h1, h2, h3, h4, h5⟩ := k.pen q hq
  exact ⟨c, ns, t, g, h1, h2, h3, by omega, h5⟩

/-- a new thing that stands still -/
def Wd.still (w : Wd) (a : Addr) (o : HO) : Wd := { w with B := upd w.B a o, H := upd w.H a o }
theorem le_still (k : Ok G w S b) {a : Addr} {o : HO} (h : w.H a = none) : Le w (w.still a o) := by
  refine ⟨rfl, ⟨[], by show w.ρ = w.ρ ++ []; simp, fun _ h => by simp at h⟩, sub_upd (k.free h), fun x u e => ?_, fun x u e _ _ => ?_, fun x u e => ?_⟩
  · have e : upd w.B a o x = some u := e
    by_cases hx : x = a
    · subst hx
      exact .inr (.inl h)
    · rw [upd_ne hx] at e
      exact .inl e
  · show upd w.H a o x = some u
    rw [upd_ne (ne_of_none e h)]
    exact e
  · refine ⟨u, ?_⟩
    show upd w.H a o x = some u
    rw [upd_ne (ne_of_none e h)]
    exact e
theorem ok_still (k : Ok G w S b) {a : Addr} {o : HO} (h : w.H a = none) : Ok G (w.still a o) S b := by
  have hB := sub_upd (o := o) (k.free h)
  have hin := k.notin h
  refine ⟨k.len, fun x u e => ?_, k.nd, fun i x ob e1 e2 => ?_, fun i x ds e1 e2 => ?_, fun x hx => ?_, ?_, ?_, k.pρ⟩
  · have e : upd w.B a o x = some u := e
    show upd w.H a o x = some u
    by_cases hx : x = a
    · subst hx
      rw [upd_same] at e ⊢
      exact e
    · rw [upd_ne hx] at e ⊢
      exact k.sub x u e
  · have hx : x ≠ a := fun z => hin (by rw [← z]; exact List.mem_of_getElem? e1)
    exact ObRep.mono (w := w) rfl hB (upd_ne hx) (k.obs i x ob e1 e2)
  · have hx : x ≠ a := fun z => hin (by rw [← z]; exact List.mem_of_getElem? e1)
    show upd w.B a o x = none
    rw [upd_ne hx]
    exact k.off i x ds e1 e2
  · obtain ⟨u, e⟩ := k.tr x hx
    refine ⟨u, ?_⟩
    show upd w.H a o x = some u
    rw [upd_ne (ne_of_none e h)]
    exact e
  · intro q hq
    obtain ⟨c, ns, t, g, h1, h2, h3⟩ := k.pen q hq
    refine ⟨c, ns, t, g, ?_, hB _ _ h2, h3⟩
    show upd w.H a o q = _
    rw [upd_ne (k.neq hq h)]
    exact h1
  · intro q hq
    show upd w.B a o q = none
    rw [upd_ne (k.neq hq h)]
    exact k.pB q hq

/-- a new list that may change -/
def Wd.more (w : Wd) (a : Addr) (xs : List V) : Wd := { w with ρ := w.ρ ++ [a], H := upd w.H a (.lst xs) }
theorem le_more (k : Ok G w S b) {a : Addr} {xs : List V} (h : w.H a = none) : Le w (w.more a xs) := by
  refine ⟨rfl, ⟨[a], rfl, fun x hx => ?_⟩, Sub.refl _, fun x u e => .inl e, fun x u e _ _ => ?_, fun x u e => ?_⟩
  · rw [List.mem_singleton.mp hx]
    exact h
  · show upd w.H a _ x = some u
    rw [upd_ne (ne_of_none e h)]
    exact e
  · refine ⟨u, ?_⟩
    show upd w.H a _ x = some u
    rw [upd_ne (ne_of_none e h)]
    exact e
theorem ok_more (k : Ok G w S b) {a : Addr} {xs : List V} {ds : List D} (h : w.H a = none) (r : RepL G w.p w.B ds xs) : Ok G (w.more a xs) (S ++ [.lst ds]) b := by
  have hin := k.notin h
  have sp : ∀ {i : Nat} {x : Addr}, (w.ρ ++ [a])[i]? = some x → (i < w.ρ.length ∧ w.ρ[i]? = some x) ∨ (i = w.ρ.length ∧ x = a) := fun {i x} e => by
    by_cases hi : i < w.ρ.length
    · rw [List.getElem?_append_left hi] at e
      exact .inl ⟨hi, e⟩
    · rw [List.getElem?_append_right (by omega)] at e
      have : i - w.ρ.length = 0 := by
        have := (List.getElem?_eq_some_iff.mp e).1
        simp at this
        omega
      rw [this] at e
      exact .inr ⟨by omega, (Option.some.inj e).symm⟩
  have lS : w.ρ.length = S.length := k.len
  refine ⟨by simp [Wd.more, k.len], fun x u e => ?_, fun i j x e1 e2 => ?_, fun i x ob e1 e2 => ?_, fun i x es e1 e2 => ?_, fun x hx => ?_, ?_, k.pB, ?_⟩
  · show upd w.H a _ x = some u
    have q := k.sub x u e
    rw [upd_ne (ne_of_none q h)]
    exact q
  · rcases sp e1 with ⟨h1, q1⟩ | ⟨h1, q1⟩ <;> rcases sp e2 with ⟨h2, q2⟩ | ⟨h2, q2⟩
    · exact k.nd i j x q1 q2
    · exact absurd (by rw [← q2]; exact List.mem_of_getElem? q1) hin
    · exact absurd (by rw [← q1]; exact List.mem_of_getElem? q2) hin
    · omega
  · rcases sp e1 with ⟨h1, q1⟩ | ⟨h1, q1⟩
    · rw [List.getElem?_append_left (by omega)] at e2
      have hx : x ≠ a := fun z => hin (by rw [← z]; exact List.mem_of_getElem? q1)
      exact ObRep.mono (w := w) rfl (Sub.refl _) (upd_ne hx) (k.obs i x ob q1 e2)
    · subst q1
      rw [h1, lS, List.getElem?_append_right (Nat.le_refl _), Nat.sub_self] at e2
      have e2 : Ob.lst ds = ob := Option.some.inj e2
      subst e2
      exact ⟨xs, upd_same, r⟩
  · rcases sp e1 with ⟨h1, q1⟩ | ⟨h1, q1⟩
    · rw [List.getElem?_append_left (by omega)] at e2
      exact k.off i x es q1 e2
    · subst q1
      exact k.free h
  · rcases List.mem_append.mp hx with hx | hx
    · obtain ⟨u, e⟩ := k.tr x hx
      refine ⟨u, ?_⟩
      show upd w.H a _ x = some u
      rw [upd_ne (ne_of_none e h)]
      exact e
    · rw [List.mem_singleton.mp hx]
      exact ⟨_, upd_same⟩
  · intro q hq
    obtain ⟨c, ns, t, g, h1, h2, h3⟩ := k.pen q hq
    refine ⟨c, ns, t, g, ?_, h2, h3⟩
    show upd w.H a _ q = _
    rw [upd_ne (k.neq hq h)]
    exact h1
  · intro q hq (hm : q ∈ w.ρ ++ [a])
    rcases List.mem_append.mp hm with hm | hm
    · exact k.pρ q hq hm
    · exact k.neq hq h (List.mem_singleton.mp hm)

/-- a list that may change is changed -/
def Wd.put (w : Wd) (a : Addr) (xs : List V) : Wd := { w with H := upd w.H a (.lst xs) }
theorem le_put (k : Ok G w S b) {n : Nat} {a : Addr} {xs : List V} (hn : w.ρ[n]? = some a) : Le w (w.put a xs) := by
  refine ⟨rfl, ⟨[], by show w.ρ = w.ρ ++ []; simp, fun _ h => by simp at h⟩, Sub.refl _, fun x u e => .inl e, fun x u e h1 _ => ?_, fun x u e => ?_⟩
  · show upd w.H a _ x = some u
    rw [upd_ne (fun z => h1 (by rw [z]; exact List.mem_of_getElem? hn))]
    exact e
  · by_cases hx : x = a
    · subst hx
      exact ⟨_, upd_same⟩
    · refine ⟨u, ?_⟩
      show upd w.H a _ x = some u
      rw [upd_ne hx]
      exact e
theorem ok_put (k : Ok G w S b) {n : Nat} {a : Addr} {xs : List V} {ds es : List D} (hn : w.ρ[n]? = some a) (hS : S[n]? = some (.lst es)) (r : RepL G w.p w.B ds xs) : Ok G (w.put a xs) (S.set n (.lst ds)) b := by
  have nl : n < S.length := (List.getElem?_eq_some_iff.mp hS).1
  have off := k.off n a es hn hS
  have other : ∀ {i : Nat} {x : Addr}, w.ρ[i]? = some x → i ≠ n → x ≠ a := fun {i x} e hi z => hi (k.nd i n a (by rw [← z]; exact e) hn)
  refine ⟨by simp [Wd.put, k.len], fun x u e => ?_, k.nd, fun i x ob e1 e2 => ?_, fun i x fs e1 e2 => ?_, fun x hx => ?_, ?_, k.pB, k.pρ⟩
  · show upd w.H a _ x = some u
    have e : w.B x = some u := e
    rw [upd_ne (fun z => by rw [z, off] at e; cases e)]
    exact k.sub x u e
  · by_cases hi : i = n
    · subst hi
      rw [List.getElem?_set_self nl] at e2
      have e2 : Ob.lst ds = ob := Option.some.inj e2
      subst e2
      have e1 : w.ρ[i]? = some x := e1
      rw [hn] at e1
      cases e1
      exact ⟨xs, upd_same, r⟩
    · rw [List.getElem?_set_ne (Ne.symm hi)] at e2
      exact ObRep.mono (w := w) rfl (Sub.refl _) (upd_ne (other e1 hi)) (k.obs i x ob e1 e2)
  · by_cases hi : i = n
    · subst hi
      have e1 : w.ρ[i]? = some x := e1
      rw [hn] at e1
      cases e1
      exact off
    · rw [List.getElem?_set_ne (Ne.symm hi)] at e2
      exact k.off i x fs e1 e2
  · obtain ⟨u, e⟩ := k.tr x hx
    by_cases hx : x = a
    · subst hx
      exact ⟨_, upd_same⟩
    · refine ⟨u, ?_⟩
      show upd w.H a _ x = some u
      rw [upd_ne hx]
      exact e
  · intro q hq
    obtain ⟨c, ns, t, g, h1, h2, h3⟩ := k.pen q hq
    refine ⟨c, ns, t, g, ?_, h2, h3⟩
    show upd w.H a _ q = _
    rw [upd_ne (fun z => k.pρ q hq (by rw [z]; exact List.mem_of_getElem? hn))]
    exact h1

/-- a list that may change stands still from now on -/
def Wd.freeze (w : Wd) (a : Addr) (xs : List V) : Wd := { w with B := upd w.B a (.lst xs) }
theorem le_freeze {n : Nat} {a : Addr} {xs : List V} (hn : w.ρ[n]? = some a) (hB : w.B a = none) : Le w (w.freeze a xs) := by
  refine ⟨rfl, ⟨[], by show w.ρ = w.ρ ++ []; simp, fun _ h => by simp at h⟩, sub_upd hB, fun x u e => ?_, fun x u e _ _ => e, fun x u e => ⟨u, e⟩⟩
  have e : upd w.B a _ x = some u := e
  by_cases hx : x = a
  · subst hx
    exact .inr (.inr (List.mem_of_getElem? hn))
  · rw [upd_ne hx] at e
    exact .inl e
theorem ok_freeze (k : Ok G w S b) {n : Nat} {a : Addr} {xs : List V} (hn : w.ρ[n]? = some a) (hB : w.B a = none) (hH : w.H a = some (.lst xs)) (hS : n < S.length) : Ok G (w.freeze a xs) (S.set n .dead) b := by
  have other : ∀ {i : Nat} {x : Addr}, w.ρ[i]? = some x → i ≠ n → x ≠ a := fun {i x} e hi z => hi (k.nd i n a (by rw [← z]; exact e) hn)
  have sB := sub_upd (o := .lst xs) hB
  refine ⟨by simp [Wd.freeze, k.len], fun x u e => ?_, k.nd, fun i x ob e1 e2 => ?_, fun i x fs e1 e2 => ?_, k.tr, ?_, ?_, k.pρ⟩
  · have e : upd w.B a _ x = some u := e
    by_cases hx : x = a
    · subst hx
      rw [upd_same] at e
      cases e
      exact hH
    · rw [upd_ne hx] at e
      exact k.sub x u e
  · by_cases hi : i = n
    · subst hi
      rw [List.getElem?_set_self hS] at e2
      have e2 : Ob.dead = ob := Option.some.inj e2
      subst e2
      exact True.intro
    · rw [List.getElem?_set_ne (Ne.symm hi)] at e2
      exact ObRep.mono (w := w) rfl sB rfl (k.obs i x ob e1 e2)
  · by_cases hi : i = n
    · subst hi
      rw [List.getElem?_set_self hS] at e2
      cases e2
    · rw [List.getElem?_set_ne (Ne.symm hi)] at e2
      show upd w.B a _ x = none
      rw [upd_ne (other e1 hi)]
      exact k.off i x fs e1 e2
  · intro q hq
    obtain ⟨c, ns, t, g, h1, h2, h3⟩ := k.pen q hq
    exact ⟨c, ns, t, g, h1, sB _ _ h2, h3⟩
  · intro q hq
    show upd w.B a _ q = none
    rw [upd_ne (fun z => k.pρ q hq (by rw [z]; exact List.mem_of_getElem? hn))]
    exact k.pB q hq

/-- a callee's own world -/
def Wd.own (w : Wd) : Wd := { w with ρ := [] }
theorem ok_own (k : Ok G w S b) : Ok G w.own [] b :=
  ⟨rfl, k.sub, fun i j a e => by simp [Wd.own] at e, fun i a o e => by simp [Wd.own] at e, fun i a ds e => by simp [Wd.own] at e, fun a h => by simp [Wd.own] at h, k.pen, k.pB, by simp [Wd.own]⟩
/-- .. and back -/
def Wd.back (w w1 : Wd) : Wd := { w1 with ρ := w.ρ }
theorem le_back {w1 : Wd} (k : Ok G w S b) (l : Le w.own w1) : Le w (w.back w1) := by
  refine ⟨l.p, ⟨[], by show w.ρ = w.ρ ++ []; simp, fun _ h => by simp at h⟩, l.B, fun x u e => ?_, fun x u e h1 h2 => l.H x u e (by simp [Wd.own]) h2, l.T⟩
  rcases l.Bn x u e with h | h | h
  · exact .inl h
  · exact .inr (.inl h)
  · simp [Wd.own] at h
theorem ok_back {w1 : Wd} {S1 : Sto} {b1 : Nat} (k : Ok G w S b) (l : Le w.own w1) (k1 : Ok G w1 S1 b1) : Ok G (w.back w1) S b1 := by
  have keep : ∀ x ∈ w.ρ, ∀ o, w.H x = some o → w1.H x = some o := fun x hx o e => l.H x o e (by simp [Wd.own]) (fun z => k.pρ x z hx)
  refine ⟨k.len, k1.sub, k.nd, fun i x ob e1 e2 => ?_, fun i x ds e1 e2 => ?_, fun x hx => ?_, k1.pen, k1.pB, ?_⟩
  · have m : x ∈ w.ρ := List.mem_of_getElem? e1
    obtain ⟨o, ho⟩ := k.tr x m
    exact ObRep.mono (w := w) l.p l.B ((keep x m o ho).trans ho.symm) (k.obs i x ob e1 e2)
  · have m : x ∈ w.ρ := List.mem_of_getElem? e1
    obtain ⟨o, ho⟩ := k.tr x m
    show w1.B x = none
    cases q : w1.B x with
    | none => rfl
    | some u =>
      rcases l.Bn x u q with h | h | h
      · rw [show w.own.B = w.B from rfl, k.off i x ds e1 e2] at h
        cases h
      · rw [show w.own.H = w.H from rfl, ho] at h
        cases h
      · simp [Wd.own] at h
  · obtain ⟨o, ho⟩ := k.tr x hx
    exact ⟨o, keep x hx o ho⟩
  · intro q hq
    exact k.pρ q ((show w.own.p = w1.p from l.p.symm).trans hq)
end

/-! ### readings -/
/-- what an error is, seen from a world -/
def XR (G : Gam) (w : Wd) (c : Nat) (ds : List D) (cv : Value) (dd : Option Addr) : Prop := cv = G.clsV c ∧ ∃ d fs, dd = some d ∧ w.H d = some (.xd fs) ∧ RepL G w.p w.B ds (fs.map (·.2))
def EX (G : Gam) (E : XK) (w : Wd) : Nat → List D → Nat → Prop := fun c ds _ => ∀ w' cv dd, Le w w' → XR G w' c ds cv dd → E cv dd w'.H
theorem EX.le {G : Gam} {E : XK} {w w' : Wd} (l : Le w w') {c : Nat} {ds : List D} {b : Nat} (h : EX G E w c ds b) : EX G E w' c ds b := fun w2 cv dd l2 x => h w2 cv dd (l.trans l2) x

/-- it goes on with a value in a later world -/
def Go (G : Gam) (w : Wd) (Q : V → Hp → Prop) : W × Sto → Nat → Prop := fun r b' => ∀ w' v, Le w w' → Ok G w' r.2 b' → RepW G w' r.1 v → Q v w'.H
def Gos (G : Gam) (w : Wd) (Q : List V → Hp → Prop) : List W × Sto → Nat → Prop := fun r b' => ∀ w' vs, Le w w' → Ok G w' r.2 b' → RepWs G w' r.1 vs → Q vs w'.H
def Gob (G : Gam) (w : Wd) (Q : Bool → Hp → Prop) : Bool × Sto → Nat → Prop := fun r b' => ∀ w', Le w w' → Ok G w' r.2 b' → Q r.1 w'.H

section
variable (G : Gam) (E : XK) (C : Calls)
def tE (a : Ex) : TE := fun σ H Q => ∃ w S env b, w.H = H ∧ Ok G w S b ∧ RepE G w env σ ∧ (evE C a env S).wpb b (Go G w Q) (EX G E w)
def tA (a : Ex) : TA := fun σ H Q => ∃ w S env b, w.H = H ∧ Ok G w S b ∧ RepE G w env σ ∧ (evL C a env S).wpb b (Gos G w Q) (EX G E w)
def tT (a : Ex) : TT := fun σ H Q => ∃ w S env b, w.H = H ∧ Ok G w S b ∧ RepE G w env σ ∧ (tstE C a env S).wpb b (Gob G w Q) (EX G E w)
end
theorem PE.imp {X : Cx} {e : Expr} {t t' : TE} (h : PE X e t) (f : ∀ σ H Q, t' σ H Q → t σ H Q) : PE X e t' := ⟨fun pins s σ H Q I q => h.run pins s σ H Q I (f σ H Q q)⟩
theorem PA.imp {X : Cx} {es : List Expr} {t t' : TA} (h : PA X es t) (f : ∀ σ H Q, t' σ H Q → t σ H Q) : PA X es t' := ⟨fun pos pins s σ H Q I q => h.run pos pins s σ H Q I (f σ H Q q)⟩
theorem PT.imp {X : Cx} {e : Expr} {t t' : TT} (h : PT X e t) (f : ∀ σ H Q, t' σ H Q → t σ H Q) : PT X e t' := ⟨fun pins s σ H Q I q => h.run pins s σ H Q I (f σ H Q q)⟩
theorem PW.imp {X : Cx} {e : Expr} {t t' : TT} (h : PW X e t) (f : ∀ σ H Q, t' σ H Q → t σ H Q) : PW X e t' := ⟨fun wh pins s σ H Q I q => h.run wh pins s σ H Q I (f σ H Q q)⟩
theorem PS.imp {X : Cx} {e : Stmt} {t t' : TS} (h : PS X e t) (f : ∀ D σ H, t' D σ H → t D σ H) : PS X e t' := ⟨fun pins s σ H D I q => h.run pins s σ H D I (f D σ H q)⟩
theorem PSs.imp {X : Cx} {e : List Stmt} {t t' : TS} (h : PSs X e t) (f : ∀ D σ H, t' D σ H → t D σ H) : PSs X e t' := ⟨fun pins s σ H D I q => h.run pins s σ H D I (f D σ H q)⟩
end RL
end

section
set_option Elab.async false
set_option linter.all false
set_option maxHeartbeats 1000000
/-! RL5: operations on values, by the data they stand for. Own work. -/
namespace RL
open PySem PySem.Spec PyProof.Rows L2

section
variable {G : Gam} {w : Wd} {S : Sto} {b : Nat}
/-- what a value shows when it is read -/
theorem rdW_ok (k : Ok G w S b) {x : W} {v : V} {d : D} (r : RepW G w x v) (e : rdW x S = some d) : RepV G w.p w.H d v := by
  cases x with
  | d y =>
    have e' : y = d := Option.some.inj e
    subst e'
    exact RepV.mono k.sub _ _ r
  | r n =>
    obtain ⟨a, h1, rfl⟩ := r
    unfold rdW at e
    simp only at e
    cases hS : S[n]? with
    | none => rw [hS] at e; cases e
    | some o =>
      rw [hS] at e
      cases o with
      | dead => cases e
      | lst ds =>
        have e' : D.lst ds = d := Option.some.inj e
        subst e'
        obtain ⟨xs, h2, h3⟩ := k.obs n a _ h1 hS
        simp only [RepV]
        exact ⟨a, xs, rfl, h2, RepL.mono k.sub _ _ h3⟩
theorem dat_ok {x : W} {v : V} {d : D} (r : RepW G w x v) (e : datW x = some d) : RepV G w.p w.B d v := by
  rw [datW_some e] at r
  exact r
theorem RepWs.rd (k : Ok G w S b) : ∀ {ws : List W} {ds : List D} {xs : List V}, mapO (rdW · S) ws = some ds → RepWs G w ws xs → RepL G w.p w.H ds xs
  | [], ds, xs, e, h => by
    have e' : ([] : List D) = ds := Option.some.inj e
    subst e'
    exact h
  | x :: ws, ds, xs, e, ⟨v, vs, e1, h1, h2⟩ => by
    unfold mapO at e
    cases hx : rdW x S with
    | none => rw [hx] at e; cases e
    | some d =>
      cases hs : mapO (rdW · S) ws with
      | none => rw [hx, hs] at e; cases e
      | some ds' =>
        rw [hx, hs] at e
        have e' : d :: ds' = ds := Option.some.inj e
        subst e'
        exact ⟨v, vs, e1, rdW_ok k h1 hx, RepWs.rd k hs h2⟩
end

/-! ### what the data of a value is -/
section
variable {G : Gam} {p : Option Addr} {H : Hp} {v : V}
theorem rep_non (h : RepV G p H .non v) : v = .non := by simpa only [RepV] using h
theorem rep_bl {b : Bool} (h : RepV G p H (.bl b) v) : v = .bl b := by simpa only [RepV] using h
theorem rep_int {i : Int} (h : RepV G p H (.int i) v) : v = .int i := by simpa only [RepV] using h
theorem rep_str {cs : List Nat} (h : RepV G p H (.str cs) v) : v = .str ⟨cs.toArray⟩ := by simpa only [RepV] using h
theorem rep_lst {ds : List D} (h : RepV G p H (.lst ds) v) : ∃ a xs, v = .ref a ∧ H a = some (.lst xs) ∧ RepL G p H ds xs := by simpa only [RepV] using h
theorem rep_tup {ds : List D} (h : RepV G p H (.tup ds) v) : ∃ a xs, v = .ref a ∧ H a = some (.tup xs) ∧ RepL G p H ds xs := by simpa only [RepV] using h
theorem rep_dct {ks vs : List D} (h : RepV G p H (.dct ks vs) v) : ∃ a kvs, v = .ref a ∧ H a = some (.dK kvs) ∧ RepL G p H ks (kvs.map fun kv => kV kv.1) ∧ RepL G p H vs (kvs.map Prod.snd) := by simpa only [RepV] using h
theorem str_len (cs : List Nat) : (⟨cs.toArray⟩ : Str).length = cs.length := by show cs.toArray.size = _; simp
theorem lim_eq : lim = sizeLine := by decide
end

/-- goes on with data in a later world -/
def Nx (G : Gam) (w : Wd) (S : Sto) (b : Nat) (z : D) (Q : VK) : Prop := ∀ w' v, Le w w' → Ok G w' S b → RepV G w'.p w'.B z v → Q v w'.H
theorem Nx.now {G : Gam} {w : Wd} {S : Sto} {b : Nat} {z : D} {Q : VK} (k : Ok G w S b) (h : Nx G w S b z Q) {v : V} (r : RepV G w.p w.B z v) : Q v w.H := h w v (Le.refl w) k r
theorem Nx.tup {G : Gam} {w : Wd} {S : Sto} {b : Nat} {ds : List D} {Q : VK} (k : Ok G w S b) (h : Nx G w S b (.tup ds) Q) {xs : List V} (r : RepL G w.p w.B ds xs) {a : Addr} (ha : w.H a = none) : Q (.ref a) (upd w.H a (.tup xs)) := by
  refine h (w.still a (.tup xs)) (.ref a) (le_still k ha) (ok_still k ha) ?_
  simp only [RepV]
  exact ⟨a, xs, rfl, upd_same, RepL.mono (sub_upd (k.free ha)) _ _ r⟩
theorem Nx.lst {G : Gam} {w : Wd} {S : Sto} {b : Nat} {ds : List D} {Q : VK} (k : Ok G w S b) (h : Nx G w S b (.lst ds) Q) {xs : List V} (r : RepL G w.p w.B ds xs) {a : Addr} (ha : w.H a = none) : Q (.ref a) (upd w.H a (.lst xs)) := by
  refine h (w.still a (.lst xs)) (.ref a) (le_still k ha) (ok_still k ha) ?_
  simp only [RepV]
  exact ⟨a, xs, rfl, upd_same, RepL.mono (sub_upd (k.free ha)) _ _ r⟩

/-! ### truth -/
theorem isEmpty_rep {G : Gam} {p : Option Addr} {H : Hp} {ds : List D} {xs : List V} (r : RepL G p H ds xs) : xs.isEmpty = ds.isEmpty := by
  have h := r.length
  cases ds <;> cases xs <;> simp_all
theorem tru_ok {G : Gam} {p : Option Addr} {H : Hp} {K : PySem.W.Frag} {d : D} {v : V} {k : Bool} (r : RepV G p H d v) (e : truD d = some k) : TruV K v H k := by
  cases d with
  | non => rw [rep_non r]; exact (Option.some.inj e).symm
  | bl b => rw [rep_bl r]; exact (Option.some.inj e).symm
  | int i => rw [rep_int r]; exact (Option.some.inj e).symm
  | str cs =>
    rw [rep_str r]
    have e : (if cs.length ≤ lim then some (!cs.isEmpty) else none) = some k := e
    split at e
    · rename_i hl
      refine ⟨by rw [str_len, ← lim_eq]; exact hl, ?_⟩
      rw [← Option.some.inj e, str_len]
      cases cs with
      | nil => rfl
      | cons c cs =>
        show true = (((c :: cs).length : Int) != 0)
        have h : (((c :: cs).length : Int) != 0) = true := by
          rw [bne_iff_ne]
          simp only [List.length_cons]
          omega
        exact h.symm
    · cases e
  | lst ds =>
    obtain ⟨a, xs, rfl, h1, h2⟩ := rep_lst r
    exact .inl ⟨xs, SqL.of h1, by rw [isEmpty_rep h2]; exact (Option.some.inj e).symm⟩
  | tup ds =>
    obtain ⟨a, xs, rfl, h1, h2⟩ := rep_tup r
    exact .inr (.inl ⟨xs, SqT.of h1, by rw [isEmpty_rep h2]; exact (Option.some.inj e).symm⟩)
  | dct ks vs =>
    obtain ⟨a, kvs, rfl, h1, h2, _⟩ := rep_dct r
    refine .inr (.inr ⟨kvs, h1, ?_⟩)
    have := isEmpty_rep h2
    rw [← Option.some.inj e, ← this]
    simp
  | _ => cases e

/-! ### data of the library -/
mutual
theorem dp_of {G : Gam} {p : Option Addr} {H : Hp} {K : PySem.W.Frag} : ∀ (d : D) (v : V) (x : PyData), RepV G p H d v → d.py = some x → Dp K H v x
  | .non, _, _, r, e => by rw [rep_non r]; simp only [D.py, Option.some.injEq] at e; subst e; exact .non
  | .bl b, _, _, r, e => by rw [rep_bl r]; simp only [D.py, Option.some.injEq] at e; subst e; exact .bl b
  | .int i, _, _, r, e => by rw [rep_int r]; simp only [D.py, Option.some.injEq] at e; subst e; exact .int i
  | .str cs, _, _, r, e => by rw [rep_str r]; simp only [D.py, Option.some.injEq] at e; subst e; exact .str _
  | .lst ds, _, x, r, e => by
    obtain ⟨a, xs, rfl, h1, h2⟩ := rep_lst r
    simp only [D.py, Option.map_eq_some_iff] at e
    obtain ⟨ys, e1, rfl⟩ := e
    exact .lst (SqL.of h1) (dps_of ds xs ys h2 e1)
  | .tup ds, _, x, r, e => by
    obtain ⟨a, xs, rfl, h1, h2⟩ := rep_tup r
    simp only [D.py, Option.map_eq_some_iff] at e
    obtain ⟨ys, e1, rfl⟩ := e
    exact .tup (SqT.of h1) (dps_of ds xs ys h2 e1)
  | .dct _ _, _, _, _, e => by simp only [D.py] at e; cases e
  | .ins _ _, _, _, _, e => by simp only [D.py] at e; cases e
  | .fn _, _, _, _, e => by simp only [D.py] at e; cases e
  | .pen, _, _, _, e => by simp only [D.py] at e; cases e
theorem dps_of {G : Gam} {p : Option Addr} {H : Hp} {K : PySem.W.Frag} : ∀ (ds : List D) (vs : List V) (xs : List PyData), RepL G p H ds vs → D.pys ds = some xs → DpAll K H vs xs
  | [], _, _, r, e => by simp only [RepL] at r; simp only [D.pys, Option.some.injEq] at e; subst r; subst e; exact .nil
  | d :: ds, _, xs, r, e => by
    simp only [RepL] at r
    obtain ⟨v, vs, rfl, h1, h2⟩ := r
    simp only [D.pys] at e
    cases hx : d.py with
    | none => rw [hx] at e; cases e
    | some x =>
      cases hs : D.pys ds with
      | none => rw [hx, hs] at e; cases e
      | some ys =>
        rw [hx, hs] at e
        have e' : x :: ys = xs := Option.some.inj e
        subst e'
        exact .cons (dp_of d v x h1 hx) (dps_of ds vs ys h2 hs)
end
theorem flat_rep {G : Gam} {p : Option Addr} {H : Hp} {d : D} {v : V} (r : RepV G p H d v) (f : flatD d = true) : flatV v = true := by
  cases d with
  | non => rw [rep_non r]; rfl
  | bl b => rw [rep_bl r]; rfl
  | int i => rw [rep_int r]; rfl
  | str cs => rw [rep_str r]; rfl
  | _ => cases f
theorem flats_rep {G : Gam} {p : Option Addr} {H : Hp} : ∀ {ds : List D} {xs : List V}, RepL G p H ds xs → ds.all flatD = true → xs.all flatV = true
  | [], _, r, _ => by simp only [RepL] at r; subst r; rfl
  | d :: ds, _, r, f => by
    simp only [RepL] at r
    obtain ⟨v, vs, rfl, h1, h2⟩ := r
    rw [List.all_cons, Bool.and_eq_true] at f
    rw [List.all_cons, flat_rep h1 f.1, flats_rep h2 f.2]
    rfl
theorem eqF_rep {G : Gam} {p : Option Addr} {H : Hp} {d e : D} {v u : V} (r : RepV G p H d v) (q : RepV G p H e u) (f : flatD d = true) (f' : flatD e = true) : eqV v u = eqF d e := by
  have st : ∀ a b : List Nat, ((⟨a.toArray⟩ : Str) == ⟨b.toArray⟩) = (a == b) := fun a b => by
    rw [Bool.eq_iff_iff]
    simp
  cases d with
  | non =>
    rw [rep_non r]
    cases e with
    | non => rw [rep_non q]; rfl
    | bl b => rw [rep_bl q]; rfl
    | int i => rw [rep_int q]; rfl
    | str cs => rw [rep_str q]; rfl
    | _ => cases f'
  | bl a =>
    rw [rep_bl r]
    cases e with
    | non => rw [rep_non q]; rfl
    | bl b => rw [rep_bl q]; rfl
    | int i => rw [rep_int q]; rfl
    | str cs => rw [rep_str q]; rfl
    | _ => cases f'
  | int a =>
    rw [rep_int r]
    cases e with
    | non => rw [rep_non q]; rfl
    | bl b => rw [rep_bl q]; rfl
    | int i => rw [rep_int q]; rfl
    | str cs => rw [rep_str q]; rfl
    | _ => cases f'
  | str a =>
    rw [rep_str r]
    cases e with
    | non => rw [rep_non q]; rfl
    | bl b => rw [rep_bl q]; rfl
    | int i => rw [rep_int q]; rfl
    | str cs => rw [rep_str q]; exact st a cs
    | _ => cases f'
  | _ => cases f
theorem any_rep {G : Gam} {p : Option Addr} {H : Hp} {x : D} {v : V} (q : RepV G p H x v) (f : flatD x = true) : ∀ {ds : List D} {xs : List V}, RepL G p H ds xs → ds.all flatD = true → inV v xs = ds.any fun y => eqF y x
  | [], _, r, _ => by simp only [RepL] at r; subst r; rfl
  | d :: ds, _, r, g => by
    simp only [RepL] at r
    obtain ⟨u, vs, rfl, h1, h2⟩ := r
    rw [List.all_cons, Bool.and_eq_true] at g
    have ih := any_rep q f h2 g.2
    show (eqV u v || inV v vs) = _
    rw [List.any_cons, ih, eqF_rep h1 q g.1 f]
end RL
end

section
set_option Elab.async false
set_option linter.all false
set_option maxHeartbeats 2000000
/-! RL6: operators, comparisons. Own work. -/
namespace RL
open PySem PySem.Spec PyProof.Rows L2

/-- a value that is read: a list may be one that changes, its items stand still -/
def RepR (G : Gam) (w : Wd) (d : D) (v : V) : Prop := (∃ ds a xs, d = .lst ds ∧ v = .ref a ∧ w.H a = some (.lst xs) ∧ RepL G w.p w.B ds xs) ∨ RepV G w.p w.B d v
section
variable {G : Gam} {w : Wd} {S : Sto} {b : Nat}
theorem RepR.hp (k : Ok G w S b) {d : D} {v : V} (r : RepR G w d v) : RepV G w.p w.H d v := by
  rcases r with ⟨ds, a, xs, rfl, rfl, h, q⟩ | r
  · simp only [RepV]
    exact ⟨a, xs, rfl, h, RepL.mono k.sub _ _ q⟩
  · exact RepV.mono k.sub _ _ r
theorem RepR.lst (k : Ok G w S b) {ds : List D} {v : V} (r : RepR G w (.lst ds) v) : ∃ a xs, v = .ref a ∧ w.H a = some (.lst xs) ∧ RepL G w.p w.B ds xs := by
  rcases r with ⟨es, a, xs, e, rfl, h, q⟩ | r
  · cases e
    exact ⟨a, xs, rfl, h, q⟩
  · obtain ⟨a, xs, rfl, h, q⟩ := rep_lst r
    exact ⟨a, xs, rfl, k.sub _ _ h, q⟩
theorem RepR.of {d : D} {v : V} (r : RepR G w d v) (h : isSeq d = false ∨ (∃ ds, d = .tup ds)) : RepV G w.p w.B d v := by
  rcases r with ⟨es, a, xs, e, rfl, h', q⟩ | r
  · subst e
    rcases h with h | ⟨ds, h⟩ <;> cases h
  · exact r
theorem RepR.tup (k : Ok G w S b) {ds : List D} {v : V} (r : RepR G w (.tup ds) v) : ∃ a xs, v = .ref a ∧ w.H a = some (.tup xs) ∧ RepL G w.p w.B ds xs := by
  obtain ⟨a, xs, rfl, h, q⟩ := rep_tup (r.of (.inr ⟨ds, rfl⟩))
  exact ⟨a, xs, rfl, k.sub _ _ h, q⟩
theorem RepR.int {i : Int} {v : V} (r : RepR G w (.int i) v) : v = .int i := rep_int (r.of (.inl rfl))
theorem RepR.str {i : List Nat} {v : V} (r : RepR G w (.str i) v) : v = .str ⟨i.toArray⟩ := rep_str (r.of (.inl rfl))
theorem RepR.bl {i : Bool} {v : V} (r : RepR G w (.bl i) v) : v = .bl i := rep_bl (r.of (.inl rfl))
theorem rdR (k : Ok G w S b) {x : W} {v : V} {d : D} (r : RepW G w x v) (e : rdW x S = some d) : RepR G w d v := by
  cases x with
  | d y =>
    have e' : y = d := Option.some.inj e
    subst e'
    exact .inr r
  | r n =>
    obtain ⟨a, h1, rfl⟩ := r
    unfold rdW at e
    simp only at e
    cases hS : S[n]? with
    | none => rw [hS] at e; cases e
    | some o =>
      rw [hS] at e
      cases o with
      | dead => cases e
      | lst ds =>
        have e' : D.lst ds = d := Option.some.inj e
        subst e'
        obtain ⟨xs, h2, h3⟩ := k.obs n a _ h1 hS
        exact .inl ⟨ds, a, xs, rfl, rfl, h2, h3⟩
/-- several values that are read -/
def RepRs (G : Gam) (w : Wd) : List D → List V → Prop
  | [], xs => xs = []
  | d :: ds, xs => ∃ v vs, xs = v :: vs ∧ RepR G w d v ∧ RepRs G w ds vs
theorem rdRs (k : Ok G w S b) : ∀ {ws : List W} {ds : List D} {xs : List V}, mapO (rdW · S) ws = some ds → RepWs G w ws xs → RepRs G w ds xs
  | [], ds, xs, e, h => by
    have e' : ([] : List D) = ds := Option.some.inj e
    subst e'
    exact h
  | x :: ws, ds, xs, e, ⟨v, vs, e1, h1, h2⟩ => by
    unfold mapO at e
    cases hx : rdW x S with
    | none => rw [hx] at e; cases e
    | some d =>
      cases hs : mapO (rdW · S) ws with
      | none => rw [hx, hs] at e; cases e
      | some ds' =>
        rw [hx, hs] at e
        have e' : d :: ds' = ds := Option.some.inj e
        subst e'
        exact ⟨v, vs, e1, rdR k h1 hx, rdRs k hs h2⟩
end

def rD2 (G : Gam) (g : D → D → Option D) : R2 := fun x y H Q => ∃ w S b d e z, w.H = H ∧ Ok G w S b ∧ RepR G w d x ∧ RepR G w e y ∧ g d e = some z ∧ Nx G w S b z Q

def opB : BinO → Operator
  | .add => .Add
  | .sub => .Sub
  | .mul => .Mult
  | .fdiv => .FloorDiv
  | .mod => .Mod
  | .pow => .Pow
theorem str_app (a b : List Nat) : ((⟨a.toArray⟩ : Str) ++ ⟨b.toArray⟩) = ⟨(a ++ b).toArray⟩ := by
  show Str.mk (a.toArray ++ b.toArray) = _
  simp
section
variable {X : Cx} {G : Gam}
theorem bits_le {i : Int} {k : Nat} (h : i.natAbs < 2 ^ k) : Builtin.Int.intBits i ≤ k := by
  unfold Builtin.Int.intBits
  by_cases hi : i.natAbs = 0
  · have : i = 0 := by omega
    subst this
    simp
  · have := (Nat.log2_lt hi).mpr h
    split <;> omega
theorem pow_room {b j : Int} (h1 : b ≤ 20000) (h0 : 0 ≤ j) (h2 : j ≤ 60) : b * j ≤ 2 ^ 27 := by
  have h3 : b * j ≤ 20000 * 60 := Int.mul_le_mul h1 h2 h0 (by decide)
  omega
theorem bits_leI {i : Int} {k : Nat} (h : i.natAbs < 2 ^ k) : (Builtin.Int.intBits i : Int) ≤ (k : Int) := Int.ofNat_le.mpr (bits_le h)
theorem op_powW : OpR X (binaryOp .Pow) (rI (fun i j => 0 ≤ j ∧ j ≤ 60 ∧ i.natAbs < 2 ^ 20000) fun i j => .int (i ^ j.toNat)) := opI fun i j _ _ _ _ _ hc q =>
  pow_int hc.1 (pow_room (bits_leI hc.2.2) hc.1 hc.2.1) q
theorem op_fdivZ : OpR X (binaryOp .FloorDiv) (rI (fun _ j => j ≠ 0 ∧ j.natAbs.log2 < 9000) fun i j => .int (i.fdiv j)) := opI fun _ _ _ _ _ _ _ hc q => floordiv_int hc.1 q (.inl (PyProof.noPylong_of_log2 hc.2))
theorem RepL.reps {p : Option Addr} {B : Hp} {ds : List D} {xs : List V} (h : RepL G p B ds xs) : ∀ n : Nat, RepL G p B (List.replicate n ds).flatten (List.replicate n xs).flatten
  | 0 => by simp only [List.replicate, List.flatten_nil, RepL]
  | n + 1 => by
    rw [List.replicate_succ, List.replicate_succ, List.flatten_cons, List.flatten_cons]
    exact h.app (RepL.reps h n)
theorem bin_ok (o : BinO) : OpR X (binaryOp (opB o)) (rD2 G (binD o)) := by
  intro pins s σ H x y v u Q I rx ry h
  obtain ⟨w, S, b, d, e, z, rfl, k, r1, r2, hg, n⟩ := h
  have now : ∀ {v : V}, RepV G w.p w.B z v → Q v w.H := fun r => Nx.now k n r
  unfold binD at hg
  split at hg
  · -- int + int
    cases Option.some.inj hg
    exact op_add pins s σ _ x y v u Q I rx ry ⟨_, _, r1.int, r2.int, now (by simp only [RepV])⟩
  · -- texts
    split at hg
    · cases Option.some.inj hg
      rename_i a c hl
      refine op_add_str pins s σ _ x y v u Q I rx ry ⟨_, _, r1.str, r2.str, by rw [str_len, str_len, ← lim_eq]; exact hl, ?_⟩
      rw [str_app]
      exact now (by simp only [RepV])
    · cases hg
  · -- lists
    split at hg
    · cases Option.some.inj hg
      rename_i a c hl
      obtain ⟨p, xs, rfl, h1, q1⟩ := r1.lst k
      obtain ⟨p2, ys, rfl, h2, q2⟩ := r2.lst k
      exact op_cat pins s σ _ _ _ v u Q I rx ry ⟨p, p2, xs, ys, rfl, rfl, h1, h2, by rw [q1.length, q2.length, ← lim_eq]; exact hl, fun a ha => n.lst k (q1.app q2) ha⟩
    · cases hg
  · cases Option.some.inj hg
    exact op_sub pins s σ _ x y v u Q I rx ry ⟨_, _, r1.int, r2.int, now (by simp only [RepV])⟩
  · split at hg
    · cases Option.some.inj hg
      rename_i hc
      unfold isIntOk at hc
      rw [Bool.or_eq_true, Bool.or_eq_true, decide_eq_true_eq, decide_eq_true_eq, decide_eq_true_eq] at hc
      rcases hc with (hc | hc) | hc
      · exact op_mul pins s σ _ x y v u Q I rx ry ⟨_, _, r1.int, r2.int, .inl (by omega), now (by simp only [RepV])⟩
      · exact op_mul pins s σ _ x y v u Q I rx ry ⟨_, _, r1.int, r2.int, .inr (by omega), now (by simp only [RepV])⟩
      · exact op_mulW pins s σ _ x y v u Q I rx ry ⟨_, _, r1.int, r2.int, hc, now (by simp only [RepV])⟩
    · cases hg
  · split at hg
    · cases Option.some.inj hg
      rename_i hc
      obtain ⟨p, xs, rfl, h1, q1⟩ := r1.lst k
      exact op_rep pins s σ _ _ _ v u Q I rx ry ⟨p, _, xs, rfl, r2.int, h1, by have := hc.1.1; omega, by have := hc.1.2; unfold lim at this; omega, by rw [q1.length, ← lim_eq]; exact hc.2, fun a ha => n.lst k (q1.reps _) ha⟩
    · cases hg
  · split at hg
    · cases Option.some.inj hg
      rename_i hc
      exact op_fdivZ pins s σ _ x y v u Q I rx ry ⟨_, _, r1.int, r2.int, hc, now (by simp only [RepV])⟩
    · cases hg
  · split at hg
    · cases Option.some.inj hg
      rename_i hc
      exact op_mod pins s σ _ x y v u Q I rx ry ⟨_, _, r1.int, r2.int, hc, now (by simp only [RepV])⟩
    · cases hg
  · split at hg
    · cases Option.some.inj hg
      rename_i hc
      rcases hc with hc | hc
      · exact op_pow pins s σ _ x y v u Q I rx ry ⟨_, _, r1.int, r2.int, hc, now (by simp only [RepV])⟩
      · exact op_powW pins s σ _ x y v u Q I rx ry ⟨_, _, r1.int, r2.int, hc, now (by simp only [RepV])⟩
    · cases hg
  · cases hg

/-- a new list that may change, by an operator -/
def rD2M (G : Gam) (g : D → D → Option D) : R2 := fun x y H Q => ∃ w S b d e z, w.H = H ∧ Ok G w S b ∧ RepR G w d x ∧ RepR G w e y ∧ g d e = some (.lst z) ∧ ∀ w' v, Le w w' → Ok G w' (S ++ [.lst z]) b → RepW G w' (.r S.length) v → Q v w'.H
theorem newM {w : Wd} {S : Sto} {b : Nat} {z : List D} {Q : VK} (k : Ok G w S b) (n : ∀ w' v, Le w w' → Ok G w' (S ++ [.lst z]) b → RepW G w' (.r S.length) v → Q v w'.H) {xs : List V} (r : RepL G w.p w.B z xs) {a : Addr} (ha : w.H a = none) : Q (.ref a) (upd w.H a (.lst xs)) :=
  n (w.more a xs) (.ref a) (le_more k ha) (ok_more k ha r) ⟨a, by
    show (w.ρ ++ [a])[S.length]? = some a
    rw [List.getElem?_append_right (by rw [k.len]; exact Nat.le_refl _), k.len, Nat.sub_self]
    rfl, rfl⟩
theorem catM_ok : OpR X (binaryOp .Add) (rD2M G (binD .add)) := by
  intro pins s σ H x y v u Q I rx ry h
  obtain ⟨w, S, b, d, e, z, rfl, k, r1, r2, hg, n⟩ := h
  unfold binD at hg
  split at hg
  all_goals first
    | contradiction
    | (cases Option.some.inj hg; done)
    | (cases hg; done)
    | skip
  · split at hg
    · cases Option.some.inj hg
    · cases hg
  · split at hg
    · cases Option.some.inj hg
      rename_i a c hl
      obtain ⟨p, xs, rfl, h1, q1⟩ := r1.lst k
      obtain ⟨p2, ys, rfl, h2, q2⟩ := r2.lst k
      exact op_cat pins s σ _ _ _ v u Q I rx ry ⟨p, p2, xs, ys, rfl, rfl, h1, h2, by rw [q1.length, q2.length, ← lim_eq]; exact hl, fun a ha => newM k n (q1.app q2) ha⟩
    · cases hg
theorem repM_ok : OpR X (binaryOp .Mult) (rD2M G (binD .mul)) := by
  intro pins s σ H x y v u Q I rx ry h
  obtain ⟨w, S, b, d, e, z, rfl, k, r1, r2, hg, n⟩ := h
  unfold binD at hg
  split at hg
  all_goals first
    | contradiction
    | (cases Option.some.inj hg; done)
    | (cases hg; done)
    | skip
  · split at hg
    · cases Option.some.inj hg
    · cases hg
  · split at hg
    · cases Option.some.inj hg
      rename_i hc
      obtain ⟨p, xs, rfl, h1, q1⟩ := r1.lst k
      exact op_rep pins s σ _ _ _ v u Q I rx ry ⟨p, _, xs, rfl, r2.int, h1, by have := hc.1.1; omega, by have := hc.1.2; unfold lim at this; omega, by rw [q1.length, ← lim_eq]; exact hc.2, fun a ha => newM k n (q1.reps _) ha⟩
    · cases hg

/-! ### comparisons -/
def opC : CmpO → CmpOp
  | .eq => .Eq
  | .ne => .NotEq
  | .lt => .Lt
  | .le => .LtE
  | .gt => .Gt
  | .ge => .GtE
  | .isN => .Is
  | .notN => .IsNot
  | .isIn => .In
  | .notIn => .NotIn
/-- a comparison of data: its answer -/
def rDC (G : Gam) (g : D → D → Option Bool) : R2 := fun x y H Q => ∃ w S b d e z, w.H = H ∧ Ok G w S b ∧ RepR G w d x ∧ RepR G w e y ∧ g d e = some z ∧ Q (.bl z) H
theorem eq_flat (hu : X.A.units + 64 < cLine) {pins : List (Addr × Obj)} {s : Shared} {σ : L2.St} {H B : Hp} {p : Option Addr} {d e : D} {x y : V} {v u : Value} {Q : VK} (I : Inv X pins σ H s) (rx : RelV x v) (ry : RelV y u) (f : flatD d = true) (f' : flatD e = true)
    (r1 : RepV G p B d x) (r2 : RepV G p B e y) : (Q (.bl (eqF d e)) H → wpAny (model X.prog X.w) X.A (compareOp .Eq v u) (EP X pins σ Q) X.xe s) ∧ (Q (.bl (!eqF d e)) H → wpAny (model X.prog X.w) X.A (compareOp .NotEq v u) (EP X pins σ Q) X.xe s) := by
  have st : ∀ a b : List Nat, decide (V.str ⟨a.toArray⟩ = V.str ⟨b.toArray⟩) = (a == b) := fun a b => by
    rw [Bool.eq_iff_iff]
    simp
  cases d with
  | non =>
    rw [rep_non r1] at rx
    cases e with
    | non => rw [rep_non r2] at ry; exact ⟨fun q => op_eq pins s σ H _ _ v u Q I rx ry ⟨rfl, q⟩, fun q => op_ne pins s σ H _ _ v u Q I rx ry ⟨rfl, q⟩⟩
    | bl b => rw [rep_bl r2] at ry; exact ⟨fun q => op_eq pins s σ H _ _ v u Q I rx ry ⟨rfl, q⟩, fun q => op_ne pins s σ H _ _ v u Q I rx ry ⟨rfl, q⟩⟩
    | int b => rw [rep_int r2] at ry; exact ⟨fun q => op_eq pins s σ H _ _ v u Q I rx ry ⟨rfl, q⟩, fun q => op_ne pins s σ H _ _ v u Q I rx ry ⟨rfl, q⟩⟩
    | str b => rw [rep_str r2] at ry; exact ⟨fun q => op_eq pins s σ H _ _ v u Q I rx ry ⟨rfl, q⟩, fun q => op_ne pins s σ H _ _ v u Q I rx ry ⟨rfl, q⟩⟩
    | _ => cases f'
  | bl a =>
    rw [rep_bl r1] at rx
    cases e with
    | non => rw [rep_non r2] at ry; exact ⟨fun q => op_eq pins s σ H _ _ v u Q I rx ry ⟨rfl, q⟩, fun q => op_ne pins s σ H _ _ v u Q I rx ry ⟨rfl, q⟩⟩
    | bl b =>
      rw [rep_bl r2] at ry
      have e1 : decide (V.bl a = V.bl b) = eqF (.bl a) (.bl b) := dec_bl
      exact ⟨fun q => op_eq pins s σ H _ _ v u Q I rx ry ⟨rfl, by rw [e1]; exact q⟩, fun q => op_ne pins s σ H _ _ v u Q I rx ry ⟨rfl, by rw [e1]; exact q⟩⟩
    | int b =>
      rw [rep_int r2] at ry
      exact ⟨fun q => op_eqD hu pins s σ H _ _ v u Q I rx ry ⟨.bool a, .int b, .bl a, .int b, rfl, rfl, q⟩, fun q => op_neD hu pins s σ H _ _ v u Q I rx ry ⟨.bool a, .int b, .bl a, .int b, rfl, rfl, q⟩⟩
    | str b => rw [rep_str r2] at ry; exact ⟨fun q => op_eq pins s σ H _ _ v u Q I rx ry ⟨rfl, q⟩, fun q => op_ne pins s σ H _ _ v u Q I rx ry ⟨rfl, q⟩⟩
    | _ => cases f'
  | int a =>
    rw [rep_int r1] at rx
    cases e with
    | non => rw [rep_non r2] at ry; exact ⟨fun q => op_eq pins s σ H _ _ v u Q I rx ry ⟨rfl, q⟩, fun q => op_ne pins s σ H _ _ v u Q I rx ry ⟨rfl, q⟩⟩
    | bl b =>
      rw [rep_bl r2] at ry
      exact ⟨fun q => op_eqD hu pins s σ H _ _ v u Q I rx ry ⟨.int a, .bool b, .int a, .bl b, rfl, rfl, q⟩, fun q => op_neD hu pins s σ H _ _ v u Q I rx ry ⟨.int a, .bool b, .int a, .bl b, rfl, rfl, q⟩⟩
    | int b =>
      rw [rep_int r2] at ry
      have e1 : decide (V.int a = V.int b) = eqF (.int a) (.int b) := dec_int
      exact ⟨fun q => op_eq pins s σ H _ _ v u Q I rx ry ⟨rfl, by rw [e1]; exact q⟩, fun q => op_ne pins s σ H _ _ v u Q I rx ry ⟨rfl, by rw [e1]; exact q⟩⟩
    | str b => rw [rep_str r2] at ry; exact ⟨fun q => op_eq pins s σ H _ _ v u Q I rx ry ⟨rfl, q⟩, fun q => op_ne pins s σ H _ _ v u Q I rx ry ⟨rfl, q⟩⟩
    | _ => cases f'
  | str a =>
    rw [rep_str r1] at rx
    cases e with
    | non => rw [rep_non r2] at ry; exact ⟨fun q => op_eq pins s σ H _ _ v u Q I rx ry ⟨rfl, q⟩, fun q => op_ne pins s σ H _ _ v u Q I rx ry ⟨rfl, q⟩⟩
    | bl b => rw [rep_bl r2] at ry; exact ⟨fun q => op_eq pins s σ H _ _ v u Q I rx ry ⟨rfl, q⟩, fun q => op_ne pins s σ H _ _ v u Q I rx ry ⟨rfl, q⟩⟩
    | int b => rw [rep_int r2] at ry; exact ⟨fun q => op_eq pins s σ H _ _ v u Q I rx ry ⟨rfl, q⟩, fun q => op_ne pins s σ H _ _ v u Q I rx ry ⟨rfl, q⟩⟩
    | str b =>
      rw [rep_str r2] at ry
      exact ⟨fun q => op_eq pins s σ H _ _ v u Q I rx ry ⟨rfl, by rw [st]; exact q⟩, fun q => op_ne pins s σ H _ _ v u Q I rx ry ⟨rfl, by rw [st]; exact q⟩⟩
    | _ => cases f'
  | _ => cases f
end
end RL
end

section
set_option Elab.async false
set_option linter.all false
set_option maxHeartbeats 2000000
/-! RL6b: a dict is no list, no tuple. Own work. -/
namespace RL
open PySem PySem.Spec PyProof.Rows L2
open PySem.SeqAt
theorem dict_eq_declines_list (l b : Addr) (d1 d2 : Data) (dd dd2 : Option Addr) (sl sl2 : Array (Option Value)) :
    Meets (Builtin.«dict.__eq__» ⟨[.ref l, .ref b], []⟩) (fun _ R s => s.heap.get? l = some { cls := .type "dict", dict := dd, data := d1, slots := sl } ∧ s.heap.get? b = some { cls := .type "list", dict := dd2, data := d2, slots := sl2 } ∧ R (.ok (.ret .notImplemented)) s) :=
  .of_wp fun prog w A R s h => by obtain ⟨hp, g, d, tk, os⟩ := s; obtain ⟨hl, hb, h⟩ := h; have f1 := F.sub_list_dict; wp_walk using wpAny_loadPart' hl, wpAny_loadPart' hb; exact ⟨_, rfl, h⟩
theorem dict_eq_declines_tuple (l b : Addr) (d1 d2 : Data) (dd dd2 : Option Addr) (sl sl2 : Array (Option Value)) :
    Meets (Builtin.«dict.__eq__» ⟨[.ref l, .ref b], []⟩) (fun _ R s => s.heap.get? l = some { cls := .type "dict", dict := dd, data := d1, slots := sl } ∧ s.heap.get? b = some { cls := .type "tuple", dict := dd2, data := d2, slots := sl2 } ∧ R (.ok (.ret .notImplemented)) s) :=
  .of_wp fun prog w A R s h => by obtain ⟨hp, g, d, tk, os⟩ := s; obtain ⟨hl, hb, h⟩ := h; have f1 := F.sub_tuple_dict; wp_walk using wpAny_loadPart' hl, wpAny_loadPart' hb; exact ⟨_, rfl, h⟩
theorem list_eq_declines_dict (l b : Addr) (items : Array Value) (n : Nat) (d2 : Data) (dd dd2 : Option Addr) (sl sl2 : Array (Option Value)) :
    Meets (Builtin.«list.__eq__» ⟨[.ref l, .ref b], []⟩) (fun _ R s => s.heap.get? l = some { cls := .type "list", dict := dd, data := .seq items n, slots := sl } ∧ s.heap.get? b = some { cls := .type "dict", dict := dd2, data := d2, slots := sl2 } ∧ R (.ok (.ret .notImplemented)) s) :=
  .of_wp fun prog w A R s h => by obtain ⟨hp, g, d, tk, os⟩ := s; obtain ⟨hl, hb, h⟩ := h; have f1 := F.sub_dict_list; wp_walk using wpAny_loadPart' hl, wpAny_loadPart' hb; exact ⟨_, rfl, h⟩
theorem tuple_eq_declines_dict (l b : Addr) (items : Array Value) (n : Nat) (d2 : Data) (dd dd2 : Option Addr) (sl sl2 : Array (Option Value)) :
    Meets (Builtin.«tuple.__eq__» ⟨[.ref l, .ref b], []⟩) (fun _ R s => s.heap.get? l = some { cls := .type "tuple", dict := dd, data := .seq items n, slots := sl } ∧ s.heap.get? b = some { cls := .type "dict", dict := dd2, data := d2, slots := sl2 } ∧ R (.ok (.ret .notImplemented)) s) :=
  .of_wp fun prog w A R s h => by obtain ⟨hp, g, d, tk, os⟩ := s; obtain ⟨hl, hb, h⟩ := h; have f1 := F.sub_dict_tuple; wp_walk using wpAny_loadPart' hl, wpAny_loadPart' hb; exact ⟨_, rfl, h⟩
section
variable {A : Around} {s : Shared} {prog : Program} {wo : World} {E : Value → Shared → Prop} {Q : Value → Shared → Prop}
theorem rc_dict_list {l b : Addr} {o1 o2 : Obj} {items : Array Value} {n : Nat} (hl : s.heap.get? l = some o1) (c1 : o1.cls = .type "dict") (hb : s.heap.get? b = some o2) (c2 : o2.cls = .type "list") (d2 : o2.data = .seq items n) (hu : A.units < cLine) (h : Q (.bool false) s) : wpAny (model prog wo) A (richCompare .Eq (.ref l) (.ref b)) Q E s := by
  have hne : l ≠ b := fun e => by
    subst e
    rw [hl] at hb
    cases hb
    rw [c1] at c2
    exact absurd c2 (by simp)
  obtain ⟨cls, dd, data, sl⟩ := o1
  obtain ⟨cls2, dd2, data2, sl2⟩ := o2
  simp only at c1 c2 d2
  subst c1 c2 d2
  exact (rc_eq_decline_or (k := false) ⟨_, hl, rfl⟩ ⟨_, hb, rfl⟩ (by decide) F.sub_list_dict F.slot_dict_eq F.slot_list_eq_refl
    (fun _ hq => call_meets F.slot_dict_eq ⟨_, hl, rfl⟩ F.entry_dict_eq (F.args_dict_eq_2 _ _) (dict_eq_declines_list l b data _ dd dd2 sl sl2) ⟨hl, hb, hq⟩)
    (fun _ hq => call_meets F.slot_list_eq_refl ⟨_, hb, rfl⟩ F.entry_list_eq (F.args_list_eq_2 _ _) (list_eq_declines_dict b l items n data dd2 dd sl2 sl) ⟨hb, hl, hq⟩)
    (fun _ hq => wpAny_isSame_ref_other hne hl hb (by simp) hq) (.inr hu) h)
theorem rc_dict_tuple {l b : Addr} {o1 o2 : Obj} {items : Array Value} {n : Nat} (hl : s.heap.get? l = some o1) (c1 : o1.cls = .type "dict") (hb : s.heap.get? b = some o2) (c2 : o2.cls = .type "tuple") (d2 : o2.data = .seq items n) (hu : A.units < cLine) (h : Q (.bool false) s) : wpAny (model prog wo) A (richCompare .Eq (.ref l) (.ref b)) Q E s := by
  have hne : l ≠ b := fun e => by
    subst e
    rw [hl] at hb
    cases hb
    rw [c1] at c2
    exact absurd c2 (by simp)
  obtain ⟨cls, dd, data, sl⟩ := o1
  obtain ⟨cls2, dd2, data2, sl2⟩ := o2
  simp only at c1 c2 d2
  subst c1 c2 d2
  exact (rc_eq_decline_or (k := false) ⟨_, hl, rfl⟩ ⟨_, hb, rfl⟩ (by decide) F.sub_tuple_dict F.slot_dict_eq F.slot_tuple_eq_refl
    (fun _ hq => call_meets F.slot_dict_eq ⟨_, hl, rfl⟩ F.entry_dict_eq (F.args_dict_eq_2 _ _) (dict_eq_declines_tuple l b data _ dd dd2 sl sl2) ⟨hl, hb, hq⟩)
    (fun _ hq => call_meets F.slot_tuple_eq_refl ⟨_, hb, rfl⟩ F.entry_tuple_eq (F.args_tuple_eq_2 _ _) (tuple_eq_declines_dict b l items n data dd2 dd sl2 sl) ⟨hb, hl, hq⟩)
    (fun _ hq => wpAny_isSame_ref_other hne hl hb (by simp) hq) (.inr hu) h)
end
section
variable {X : Cx} {G : Gam}
theorem eq_ok (hu : X.A.units + 64 < cLine) {pins : List (Addr × Obj)} {s : Shared} {σ : L2.St} {w : Wd} {S : Sto} {b : Nat} {d e : D} {x y : V} {v u : Value} {Q : VK} {z : Bool} (k : Ok G w S b) (I : Inv X pins σ w.H s) (rx : RelV x v) (ry : RelV y u)
    (r1 : RepR G w d x) (r2 : RepR G w e y) (hz : eqD d e = some z) : (Q (.bl z) w.H → wpAny (model X.prog X.w) X.A (compareOp .Eq v u) (EP X pins σ Q) X.xe s) ∧ (isDct d = false → Q (.bl (!z)) w.H → wpAny (model X.prog X.w) X.A (compareOp .NotEq v u) (EP X pins σ Q) X.xe s) := by
  have h1 := r1.hp k
  have h2 := r2.hp k
  unfold eqD at hz
  split at hz
  · rename_i hf
    rw [Bool.and_eq_true] at hf
    cases Option.some.inj hz
    obtain ⟨q1, q2⟩ := eq_flat (Q := Q) hu I rx ry hf.1 hf.2 h1 h2
    exact ⟨q1, fun _ => q2⟩
  · split at hz
    · rename_i hd
      rw [Bool.and_eq_true] at hd
      cases Option.some.inj hz
      cases d with
      | dct ks vs =>
        refine ⟨fun q => ?_, fun h => by cases h⟩
        obtain ⟨a, kvs, rfl, ha, _⟩ := rep_dct h1
        cases rx
        obtain ⟨_, _, _, _, o, _, _, eo, ex, _⟩ := I.hok a _ ha
        cases e with
        | lst es =>
          obtain ⟨a2, ys, rfl, hb, _⟩ := rep_lst h2
          cases ry
          obtain ⟨_, its, n, _, e2⟩ := I.hok a2 _ hb
          exact rc_dict_list eo ex.1 e2 rfl rfl (by omega) ⟨.bl false, w.H, I, rfl, q⟩
        | tup es =>
          obtain ⟨a2, ys, rfl, hb, _⟩ := rep_tup h2
          cases ry
          obtain ⟨_, its, _, o2, e2, c2, n2, hd2⟩ := I.hok a2 _ hb
          exact rc_dict_tuple eo ex.1 e2 c2 hd2 (by omega) ⟨.bl false, w.H, I, rfl, q⟩
        | _ => cases hd.2
      | _ => cases hd.1
    · split at hz
      · rename_i x' y' ex ey
        split at hz
        · rename_i hs
          rw [Bool.and_eq_true] at hs
          cases Option.some.inj hz
          exact ⟨fun q => op_eqD hu pins s σ _ x y v u Q I rx ry ⟨x', y', dp_of _ _ _ h1 ex, dp_of _ _ _ h2 ey, hs.1, hs.2, q⟩, fun _ q => op_neD hu pins s σ _ x y v u Q I rx ry ⟨x', y', dp_of _ _ _ h1 ex, dp_of _ _ _ h2 ey, hs.1, hs.2, q⟩⟩
        · cases hz
      · cases hz
theorem isN_rep {p : Option Addr} {H : Hp} {d : D} {x : V} (r : RepV G p H d x) : decide (x = V.non) = isN d := by
  cases d with
  | non => rw [rep_non r]; rfl
  | bl b => rw [rep_bl r]; rfl
  | int i => rw [rep_int r]; rfl
  | str cs => rw [rep_str r]; rfl
  | lst ds => obtain ⟨a, xs, rfl, _⟩ := rep_lst r; rfl
  | tup ds => obtain ⟨a, xs, rfl, _⟩ := rep_tup r; rfl
  | dct ks vs => obtain ⟨a, xs, rfl, _⟩ := rep_dct r; rfl
  | ins c ds => simp only [RepV] at r
  | fn i => simp only [RepV] at r; subst r; rfl
  | pen => simp only [RepV] at r; obtain ⟨_, _, rfl⟩ := r; rfl
theorem cmp_ok (hu : X.A.units + 64 < cLine) (o : CmpO) : OpR X (compareOp (opC o)) (rDC G (cmpD o)) := by
  intro pins s σ H x y v u Q I rx ry h
  obtain ⟨w, S, b, d, e, z, rfl, k, r1, r2, hg, q⟩ := h
  unfold cmpD at hg
  split at hg
  · exact (eq_ok hu k I rx ry r1 r2 hg).1 q
  · split at hg
    · cases hg
    · rename_i hd
      rw [Option.map_eq_some_iff] at hg
      obtain ⟨z', e1, e2⟩ := hg
      subst e2
      exact (eq_ok hu k I rx ry r1 r2 e1).2 (by simpa using hd) q
  · cases Option.some.inj hg
    exact op_lt pins s σ _ x y v u Q I rx ry ⟨_, _, r1.int, r2.int, q⟩
  · cases Option.some.inj hg
    exact op_le pins s σ _ x y v u Q I rx ry ⟨_, _, r1.int, r2.int, q⟩
  · cases Option.some.inj hg
    exact op_gt pins s σ _ x y v u Q I rx ry ⟨_, _, r1.int, r2.int, q⟩
  · cases Option.some.inj hg
    exact op_ge pins s σ _ x y v u Q I rx ry ⟨_, _, r1.int, r2.int, q⟩
  · cases Option.some.inj hg
    exact op_isN pins s σ _ x y v u Q I rx ry ⟨rep_non (r2.hp k), by rw [isN_rep (r1.hp k)]; exact q⟩
  · cases Option.some.inj hg
    exact op_notN pins s σ _ x y v u Q I rx ry ⟨rep_non (r2.hp k), by rw [isN_rep (r1.hp k)]; exact q⟩
  · unfold inD at hg
    split at hg
    · cases Option.some.inj hg
      rename_i c zz
      have e1 := r1.str
      have e2 := r2.str
      exact op_in_sign pins s σ _ x y v u Q I rx ry ⟨c, ⟨zz.toArray⟩, e1, e2, by simpa using q⟩
    · split at hg
      · rename_i hf
        rw [Bool.and_eq_true] at hf
        cases Option.some.inj hg
        obtain ⟨a, xs, rfl, h2, r3⟩ := rep_lst (r2.hp k)
        refine op_in_seq pins s σ _ _ _ v u Q I rx ry ⟨a, xs, rfl, .inl (SqL.of h2), flat_rep (r1.hp k) hf.1, flats_rep r3 hf.2, ?_⟩
        rw [any_rep (r1.hp k) hf.1 r3 hf.2]
        exact q
      · cases hg
    · split at hg
      · rename_i hf
        rw [Bool.and_eq_true] at hf
        cases Option.some.inj hg
        obtain ⟨a, xs, rfl, h2, r3⟩ := rep_tup (r2.hp k)
        refine op_in_seq pins s σ _ _ _ v u Q I rx ry ⟨a, xs, rfl, .inr (SqT.of h2), flat_rep (r1.hp k) hf.1, flats_rep r3 hf.2, ?_⟩
        rw [any_rep (r1.hp k) hf.1 r3 hf.2]
        exact q
      · cases hg
    · cases hg
  · rw [Option.map_eq_some_iff] at hg
    obtain ⟨z', hg, rfl⟩ := hg
    unfold inD at hg
    split at hg
    · cases Option.some.inj hg
      rename_i c zz
      have e1 := r1.str
      have e2 := r2.str
      exact op_notIn_sign pins s σ _ x y v u Q I rx ry ⟨c, ⟨zz.toArray⟩, e1, e2, by simpa using q⟩
    · split at hg
      · rename_i hf
        rw [Bool.and_eq_true] at hf
        cases Option.some.inj hg
        obtain ⟨a, xs, rfl, h2, r3⟩ := rep_lst (r2.hp k)
        refine op_notIn_seq pins s σ _ _ _ v u Q I rx ry ⟨a, xs, rfl, .inl (SqL.of h2), flat_rep (r1.hp k) hf.1, flats_rep r3 hf.2, ?_⟩
        rw [any_rep (r1.hp k) hf.1 r3 hf.2]
        exact q
      · cases hg
    · split at hg
      · rename_i hf
        rw [Bool.and_eq_true] at hf
        cases Option.some.inj hg
        obtain ⟨a, xs, rfl, h2, r3⟩ := rep_tup (r2.hp k)
        refine op_notIn_seq pins s σ _ _ _ v u Q I rx ry ⟨a, xs, rfl, .inr (SqT.of h2), flat_rep (r1.hp k) hf.1, flats_rep r3 hf.2, ?_⟩
        rw [any_rep (r1.hp k) hf.1 r3 hf.2]
        exact q
      · cases hg
    · cases hg
  · cases hg
end
end RL
end

section
set_option Elab.async false
set_option linter.all false
set_option maxHeartbeats 2000000
/-! RL7: built-ins, isinstance, methods, subscripts, slices. Own work. -/
namespace RL
open PySem PySem.Spec PyProof.Rows L2

/-! ### repr -/
theorem int_show {i : Int} (h : i.natAbs.log2 < 1920) : (PyData.int i).shown.length ≤ i.natAbs.log2 + 3 := by
  have q := PySem.int_text_length_le (a := i) (k := i.natAbs.log2 + 1) (by omega) (by omega)
  rw [PyData.shown_int]
  show (Str.ofString (toString i)).length ≤ _
  rw [PySem.ofString_length]
  omega
mutual
theorem show_ok : ∀ (d : D) (x : PyData), d.okr = true → d.py = some x → x.showable = true ∧ x.hasDict = false ∧ x.depth = d.dep ∧ x.shown.length ≤ d.sz
  | .non, x, _, e => by
    simp only [D.py, Option.some.injEq] at e
    subst e
    exact ⟨rfl, by simp only [PyData.hasDict], by simp only [PyData.depth, D.dep], by decide +kernel⟩
  | .bl b, x, _, e => by
    simp only [D.py, Option.some.injEq] at e
    subst e
    refine ⟨rfl, by simp only [PyData.hasDict], by simp only [PyData.depth, D.dep], ?_⟩
    cases b <;> decide +kernel
  | .int i, x, h, e => by
    simp only [D.py, Option.some.injEq] at e
    subst e
    simp only [D.okr, decide_eq_true_eq] at h
    refine ⟨by simp only [PyData.showable, decide_eq_true_eq]; exact h, by simp only [PyData.hasDict], by simp only [PyData.depth, D.dep], ?_⟩
    simp only [D.sz]
    exact int_show h
  | .str cs, x, h, e => by
    simp only [D.py, Option.some.injEq] at e
    subst e
    simp only [D.okr, List.all_eq_true, decide_eq_true_eq] at h
    refine ⟨rfl, by simp only [PyData.hasDict], by simp only [PyData.depth, D.dep], ?_⟩
    have q := PySem.StrLaws.reprText_len ⟨cs.toArray⟩ (by simpa using h)
    rw [str_len] at q
    simp only [PyData.shown, D.sz]
    exact q
  | .lst ds, x, h, e => by
    simp only [D.py, Option.map_eq_some_iff] at e
    obtain ⟨ys, e1, rfl⟩ := e
    obtain ⟨h1, h2, h3, h4⟩ := shows_ok ds ys (by simpa only [D.okr] using h) e1
    refine ⟨by simp only [PyData.showable]; exact h1, by simp only [PyData.hasDict]; exact h2, by simp only [PyData.depth, D.dep, h3], ?_⟩
    have q := PySem.listText_len_le (PyData.shownAll ys)
    simp only [PyData.shown, D.sz]
    omega
  | .tup ds, x, h, e => by
    simp only [D.py, Option.map_eq_some_iff] at e
    obtain ⟨ys, e1, rfl⟩ := e
    obtain ⟨h1, h2, h3, h4⟩ := shows_ok ds ys (by simpa only [D.okr] using h) e1
    refine ⟨by simp only [PyData.showable]; exact h1, by simp only [PyData.hasDict]; exact h2, by simp only [PyData.depth, D.dep, h3], ?_⟩
    have q := PySem.tupleText_len_le (PyData.shownAll ys)
    simp only [PyData.shown, D.sz]
    omega
  | .dct _ _, _, h, _ => by simp only [D.okr] at h; cases h
  | .ins _ _, _, h, _ => by simp only [D.okr] at h; cases h
  | .fn _, _, h, _ => by simp only [D.okr] at h; cases h
  | .pen, _, h, _ => by simp only [D.okr] at h; cases h
theorem shows_ok : ∀ (ds : List D) (xs : List PyData), D.okrs ds = true → D.pys ds = some xs → PyData.showableAll xs = true ∧ PyData.hasDictAll xs = false ∧ PyData.depthAll xs = D.deps ds ∧ ((PyData.shownAll xs).map (·.length)).sum + 2 * (PyData.shownAll xs).length ≤ D.szs ds
  | [], xs, _, e => by
    simp only [D.pys, Option.some.injEq] at e
    subst e
    exact ⟨rfl, by simp only [PyData.hasDictAll], by simp only [PyData.depthAll, D.deps], by simp only [PyData.shownAll]; decide⟩
  | d :: ds, xs, h, e => by
    simp only [D.pys] at e
    cases hx : d.py with
    | none => rw [hx] at e; cases e
    | some x =>
      cases hs : D.pys ds with
      | none => rw [hx, hs] at e; cases e
      | some ys =>
        rw [hx, hs] at e
        have e' : x :: ys = xs := Option.some.inj e
        subst e'
        simp only [D.okrs, Bool.and_eq_true] at h
        obtain ⟨a1, a2, a3, a4⟩ := show_ok d x h.1 hx
        obtain ⟨b1, b2, b3, b4⟩ := shows_ok ds ys h.2 hs
        refine ⟨by simp only [PyData.showableAll, a1, b1, Bool.and_self], by simp only [PyData.hasDictAll, a2, b2, Bool.or_self], by simp only [PyData.depthAll, D.deps, a3, b3], ?_⟩
        simp only [PyData.shownAll, List.map_cons, List.sum_cons, List.length_cons, D.szs]
        omega
end

theorem str_back (z : Str) : (⟨z.cps.toList.toArray⟩ : Str) = z := by
  cases z with
  | mk a => simp

/-! ### built-ins -/
def biV : Bi → Value
  | .len => .builtin "len"
  | .repr => .builtin "repr"
  | .int => .type "int"
  | .abs => .builtin "abs"
  | .all => .builtin "all"
  | .sum => .builtin "sum"
  | .tuple => .type "tuple"
  | .list => .type "list"
  | .max => .builtin "max"
  | .min => .builtin "min"
def rBi (G : Gam) (f : Bi) : List V → Hp → VK → Prop := fun xs H Q => ∃ w S b ds z, w.H = H ∧ Ok G w S b ∧ RepRs G w ds xs ∧ biD f ds = some z ∧ Nx G w S b z Q
theorem reps1 {G : Gam} {w : Wd} {d : D} {xs : List V} (h : RepRs G w [d] xs) : ∃ v, xs = [v] ∧ RepR G w d v := by
  obtain ⟨v, vs, rfl, h1, h2⟩ := h
  have h2 : vs = [] := h2
  subst h2
  exact ⟨v, rfl, h1⟩
theorem reps2 {G : Gam} {w : Wd} {d e : D} {xs : List V} (h : RepRs G w [d, e] xs) : ∃ v u, xs = [v, u] ∧ RepR G w d v ∧ RepR G w e u := by
  obtain ⟨v, vs, rfl, h1, u, us, rfl, h2, h3⟩ := h
  have h3 : us = [] := h3
  subst h3
  exact ⟨v, u, rfl, h1, h2⟩
theorem bls_rep {G : Gam} {p : Option Addr} {B : Hp} : ∀ {ds : List D} {bs : List Bool} {xs : List V}, bls ds = some bs → RepL G p B ds xs → xs = bs.map V.bl
  | [], bs, xs, e, r => by
    have e' : ([] : List Bool) = bs := Option.some.inj e
    subst e'
    simp only [RepL] at r
    exact r
  | d :: ds, bs, xs, e, r => by
    simp only [RepL] at r
    obtain ⟨v, vs, rfl, h1, h2⟩ := r
    cases d with
    | bl b =>
      simp only [bls, Option.map_eq_some_iff] at e
      obtain ⟨cs, e1, rfl⟩ := e
      rw [rep_bl h1, bls_rep e1 h2]
      rfl
    | _ => cases e
theorem intsD_rep {G : Gam} {p : Option Addr} {B : Hp} : ∀ {ds : List D} {bs : List Int} {xs : List V}, intsD ds = some bs → RepL G p B ds xs → xs = bs.map V.int
  | [], bs, xs, e, r => by
    have e' : ([] : List Int) = bs := Option.some.inj e
    subst e'
    simp only [RepL] at r
    exact r
  | d :: ds, bs, xs, e, r => by
    simp only [RepL] at r
    obtain ⟨v, vs, rfl, h1, h2⟩ := r
    cases d with
    | int b =>
      simp only [intsD, Option.map_eq_some_iff] at e
      obtain ⟨cs, e1, rfl⟩ := e
      rw [rep_int h1, intsD_rep e1 h2]
      rfl
    | _ => cases e
theorem strsD_rep {G : Gam} {p : Option Addr} {B : Hp} : ∀ {ds : List D} {bs : List (List Nat)} {xs : List V}, strsD ds = some bs → RepL G p B ds xs → xs = (bs.map fun c => (⟨c.toArray⟩ : Str)).map V.str
  | [], bs, xs, e, r => by
    have e' : ([] : List (List Nat)) = bs := Option.some.inj e
    subst e'
    simp only [RepL] at r
    exact r
  | d :: ds, bs, xs, e, r => by
    simp only [RepL] at r
    obtain ⟨v, vs, rfl, h1, h2⟩ := r
    cases d with
    | str b =>
      simp only [strsD, Option.map_eq_some_iff] at e
      obtain ⟨cs, e1, rfl⟩ := e
      rw [rep_str h1, strsD_rep e1 h2]
      rfl
    | _ => cases e
theorem abs_ite (i : Int) : (if i < 0 then -i else i) = (i.natAbs : Int) := by
  split <;> omega
section
variable {X : Cx} {G : Gam}
theorem repr_ok (hc : X.calm = true) (hg : X.A.guards = some []) (hu : X.A.units + 100 < cLine) {pins : List (Addr × Obj)} {s : Shared} {σ : L2.St} {w : Wd} {S : Sto} {b : Nat} {d z : D} {v : V} {u : Value} {Q : VK} (k : Ok G w S b) (I : Inv X pins σ w.H s) (rv : RelV v u) (r : RepR G w d v)
    (e : reprD d = some z) (n : Nx G w S b z Q) : wpAny (model X.prog X.w) X.A (call (.builtin "repr") [u]) (EP X pins σ Q) X.xe s := by
  unfold reprD at e
  split at e
  · rename_i x hx
    split at e
    · rename_i hk
      rw [Bool.and_eq_true, Bool.and_eq_true, decide_eq_true_eq, decide_eq_true_eq] at hk
      obtain ⟨⟨h1, h2⟩, h3⟩ := hk
      cases Option.some.inj e
      obtain ⟨a1, a2, a3, a4⟩ := show_ok d x h1 hx
      have hl : x.shown.length ≤ sizeLine := by rw [← lim_eq]; omega
      have q : Q (.str x.shown) w.H := Nx.now k n (by simp only [RepV, str_back])
      obtain ⟨as, rd⟩ := Dp.reads I x v u (dp_of d v x (r.hp k) hx) rv
      have go : ∀ {a : Addr}, u = .ref a → wpAny (model X.prog X.w) X.A (call (.builtin "repr") [u]) (EP X pins σ Q) X.xe s := fun {a} ea => by
        subst ea
        exact repr_of_reads' rd a1 (fun h => absurd (a2.symm.trans h) Bool.false_ne_true) hg (by rw [a3]; omega) (fun _ _ e => e) (fun h' u' tk hk => ⟨.str x.shown, w.H, I.kept (t' := tk) hk, ⟨u', rfl⟩, q⟩) hl
      cases d with
      | non =>
        rw [rep_non (r.hp k)] at rv
        cases rv
        simp only [D.py, Option.some.injEq] at hx
        subst hx
        exact PySem.P.repr_of_none ⟨.str _, w.H, I.tok _, ⟨_, rfl⟩, q⟩
      | bl c =>
        rw [rep_bl (r.hp k)] at rv
        cases rv
        simp only [D.py, Option.some.injEq] at hx
        subst hx
        exact PySem.P.repr_of_bool ⟨.str _, w.H, I.tok _, ⟨_, rfl⟩, by simpa only [PyData.shown] using q⟩
      | int i =>
        rw [rep_int (r.hp k)] at rv
        obtain ⟨t, rfl⟩ := rv
        simp only [D.py, Option.some.injEq] at hx
        subst hx
        simp only [D.okr, decide_eq_true_eq] at h1
        exact PySem.P.repr_of_int h1 ⟨.str _, w.H, I.tok _, ⟨_, rfl⟩, by simpa only [PyData.shown] using q⟩
      | str cs =>
        rw [rep_str (r.hp k)] at rv
        obtain ⟨t, rfl⟩ := rv
        simp only [D.py, Option.some.injEq] at hx
        subst hx
        exact PySem.P.repr_of_str ⟨.str _, w.H, I.tok _, ⟨_, rfl⟩, by simpa only [PyData.shown] using q⟩ (by simpa only [PyData.shown] using hl)
      | lst ds =>
        obtain ⟨a, xs, rfl, _⟩ := rep_lst (r.hp k)
        cases rv
        exact go rfl
      | tup ds =>
        obtain ⟨a, xs, rfl, _⟩ := rep_tup (r.hp k)
        cases rv
        exact go rfl
      | _ => simp only [D.okr] at h1; cases h1
    · cases e
  · cases e
theorem biB_ok (hc : X.calm = true) (hg : X.A.guards = some []) (hu : X.A.units + 100 < cLine) (f : Bi) : CallR X (biV f) (rBi G f) := by
  intro pins s σ H xs us Q I rs h
  obtain ⟨w, S, b, ds, z, rfl, k, r, e, n⟩ := h
  have now : ∀ {v : V}, RepV G w.p w.B z v → Q v w.H := fun r => Nx.now k n r
  unfold biD at e
  split at e
  · split at e
    · rename_i hl
      cases Option.some.inj e
      obtain ⟨v, rfl, r1⟩ := reps1 r
      exact call_len_str pins s σ _ _ us Q I rs ⟨_, by rw [r1.str], by rw [str_len, ← lim_eq]; exact hl, by rw [str_len]; exact now (by simp only [RepV])⟩
    · cases e
  · cases Option.some.inj e
    obtain ⟨v, rfl, r1⟩ := reps1 r
    obtain ⟨a, ys, rfl, h1, h2⟩ := r1.lst k
    exact call_len_seq pins s σ _ _ us Q I rs ⟨a, ys, rfl, .inl (SqL.of h1), by rw [h2.length]; exact now (by simp only [RepV])⟩
  · cases Option.some.inj e
    obtain ⟨v, rfl, r1⟩ := reps1 r
    obtain ⟨a, ys, rfl, h1, h2⟩ := r1.tup k
    exact call_len_seq pins s σ _ _ us Q I rs ⟨a, ys, rfl, .inr (SqT.of h1), by rw [h2.length]; exact now (by simp only [RepV])⟩
  · cases Option.some.inj e
    obtain ⟨v, rfl, r1⟩ := reps1 r
    obtain ⟨a, kvs, rfl, h1, h2, _⟩ := rep_dct (r1.hp k)
    have hl := h2.length
    rw [List.length_map] at hl
    exact call_lenD pins s σ _ _ us Q I rs ⟨a, kvs, rfl, h1, by rw [hl]; exact now (by simp only [RepV])⟩
  · obtain ⟨v, rfl, r1⟩ := reps1 r
    obtain ⟨u, rfl, ru⟩ := vals1 rs
    exact repr_ok hc hg hu k I ru r1 e n
  · cases Option.some.inj e
    obtain ⟨v, rfl, r1⟩ := reps1 r
    exact call_int1 pins s σ _ _ us Q I rs (.inl ⟨_, by rw [r1.int], now (by simp only [RepV])⟩)
  · cases Option.some.inj e
    obtain ⟨v, rfl, r1⟩ := reps1 r
    exact call_int1 pins s σ _ _ us Q I rs (.inr ⟨_, by rw [r1.bl], now (by simp only [RepV])⟩)
  · cases Option.some.inj e
    obtain ⟨v, rfl, r1⟩ := reps1 r
    exact call_abs pins s σ _ _ us Q I rs ⟨_, by rw [r1.int], by rw [abs_ite]; exact now (by simp only [RepV])⟩
  · split at e
    · rename_i bs hb
      cases Option.some.inj e
      obtain ⟨v, rfl, r1⟩ := reps1 r
      obtain ⟨a, ys, rfl, h1, h2⟩ := r1.lst k
      rw [bls_rep hb h2] at h1
      exact cr_all hc pins s σ _ _ us Q I rs ⟨a, bs, rfl, SqL.of h1, now (by simp only [RepV])⟩
    · cases e
  · split at e
    · rename_i bs hb
      cases Option.some.inj e
      obtain ⟨v, rfl, r1⟩ := reps1 r
      obtain ⟨a, ys, rfl, h1, h2⟩ := r1.lst k
      rw [intsD_rep hb h2] at h1
      exact cr_sum hc pins s σ _ _ us Q I rs ⟨a, bs, rfl, SqL.of h1, now (by simp only [RepV])⟩
    · cases e
  · cases Option.some.inj e
    obtain ⟨v, rfl, r1⟩ := reps1 r
    obtain ⟨a, ys, rfl, h1, h2⟩ := r1.lst k
    exact call_tuple_of pins s σ _ _ us Q I rs ⟨a, ys, rfl, .inl ⟨SqL.of h1, fun l hl => n.tup k h2 hl⟩⟩
  · cases Option.some.inj e
    obtain ⟨v, rfl, r1⟩ := reps1 r
    have r2 := r1.of (.inr ⟨_, rfl⟩)
    obtain ⟨a, ys, rfl, h1, h2⟩ := r1.tup k
    exact call_tuple_of pins s σ _ _ us Q I rs ⟨a, ys, rfl, .inr ⟨SqT.of h1, now r2⟩⟩
  · cases Option.some.inj e
    obtain ⟨v, rfl, r1⟩ := reps1 r
    obtain ⟨a, ys, rfl, h1, h2⟩ := r1.lst k
    exact call_list_of pins s σ _ _ us Q I rs ⟨a, ys, rfl, .inl (SqL.of h1), fun l hl => n.lst k h2 hl⟩
  · cases Option.some.inj e
    obtain ⟨v, rfl, r1⟩ := reps1 r
    obtain ⟨a, ys, rfl, h1, h2⟩ := r1.tup k
    exact call_list_of pins s σ _ _ us Q I rs ⟨a, ys, rfl, .inr (SqT.of h1), fun l hl => n.lst k h2 hl⟩
  · cases Option.some.inj e
    obtain ⟨v, v', rfl, r1, r2⟩ := reps2 r
    exact call_max2 hc pins s σ _ _ us Q I rs ⟨_, _, by rw [r1.int, r2.int], now (by simp only [RepV])⟩
  · cases Option.some.inj e
    obtain ⟨v, v', rfl, r1, r2⟩ := reps2 r
    exact call_min2 hc pins s σ _ _ us Q I rs ⟨_, _, by rw [r1.int, r2.int], now (by simp only [RepV])⟩
  · cases e

/-! ### isinstance -/
def tyN : Ty → String
  | .int => "int"
  | .bool => "bool"
  | .str => "str"
  | .list => "list"
  | .tuple => "tuple"
  | .dict => "dict"
theorem ty_ok {p : Option Addr} {H : Hp} {t : Ty} {d : D} {v : V} {b : Bool} (r : RepV G p H d v) (e : tyD t d = some b) : ∃ T, TyX X.K H v (.type T) ∧ kitB T (tyN t) = some b := by
  cases d with
  | non =>
    rw [rep_non r]
    refine ⟨_, .base .non, ?_⟩
    cases t <;> cases e <;> decide +kernel
  | bl c =>
    rw [rep_bl r]
    refine ⟨_, .base (.bl c), ?_⟩
    cases t <;> cases e <;> decide +kernel
  | int i =>
    rw [rep_int r]
    refine ⟨_, .base (.int i), ?_⟩
    cases t <;> cases e <;> decide +kernel
  | str cs =>
    rw [rep_str r]
    refine ⟨_, .base (.str _), ?_⟩
    cases t <;> cases e <;> decide +kernel
  | lst ds =>
    obtain ⟨a, xs, rfl, h, _⟩ := rep_lst r
    refine ⟨_, .base (.lst h), ?_⟩
    cases t <;> cases e <;> decide +kernel
  | tup ds =>
    obtain ⟨a, xs, rfl, h, _⟩ := rep_tup r
    refine ⟨_, .base (.tup h), ?_⟩
    cases t <;> cases e <;> decide +kernel
  | dct ks vs =>
    obtain ⟨a, xs, rfl, h, _⟩ := rep_dct r
    refine ⟨_, .base (.dK h), ?_⟩
    cases t <;> cases e <;> decide +kernel
  | ins c ds => cases t <;> cases e
  | fn i => cases t <;> cases e
  | pen => cases t <;> cases e
end
end RL
end

section
set_option Elab.async false
set_option linter.all false
set_option maxHeartbeats 2000000
/-! RL8: methods, subscripts, slices, by values. Own work. -/
namespace RL
open PySem PySem.Spec PyProof.Rows L2

theorem joinL_str (sep : List Nat) : ∀ ts : List (List Nat), Str.join (⟨sep.toArray⟩ : Str) (ts.map fun c => (⟨c.toArray⟩ : Str)) = ⟨(joinL sep ts).toArray⟩
  | [] => rfl
  | [x] => rfl
  | x :: y :: r => by
    have ih := joinL_str sep (y :: r)
    show ((⟨x.toArray⟩ : Str) ++ ⟨sep.toArray⟩ ++ Str.join (⟨sep.toArray⟩ : Str) ((y :: r).map fun c => (⟨c.toArray⟩ : Str))) = ⟨(x ++ sep ++ joinL sep (y :: r)).toArray⟩
    rw [ih, str_app, str_app]
theorem lens_str : ∀ ts : List (List Nat), ((ts.map fun c => (⟨c.toArray⟩ : Str)).map (·.length)).sum = (ts.map List.length).sum
  | [] => rfl
  | x :: r => by
    simp only [List.map_cons, List.sum_cons, str_len]
    have := lens_str r
    omega
theorem atI_rep {G : Gam} {p : Option Addr} {B : Hp} {ds : List D} {xs : List V} {i : Int} {d : D} (r : RepL G p B ds xs) (e : atI ds i = some d) : ∃ v, atI xs i = some v ∧ RepV G p B d v := by
  unfold atI at e ⊢
  rw [r.length]
  cases h : ixN ds.length i with
  | none => rw [h] at e; cases e
  | some j =>
    rw [h] at e
    exact r.get e
theorem cutL_rep {G : Gam} {p : Option Addr} {B : Hp} {ds : List D} {xs : List V} {lo hi : Option Int} (r : RepL G p B ds xs) : RepL G p B (cutL ds lo hi) (cutV xs lo hi) := by
  unfold cutL cutV
  rw [r.length]
  exact (r.drop _).take _
section
variable {X : Cx} {G : Gam}
def rSub (G : Gam) : R2 := fun x y H Q => ∃ w S b d e z, w.H = H ∧ Ok G w S b ∧ RepR G w d x ∧ RepV G w.p w.B e y ∧ subD d e = some z ∧ Nx G w S b z Q
theorem sub_ok : IxR X (rSub G) := by
  intro value slice pins s σ H x y v u Q I rx ry h hs
  obtain ⟨w, S, b, d, e, z, rfl, k, r1, r2, hg, n⟩ := h
  have now : ∀ {v : V}, RepV G w.p w.B z v → Q v w.H := fun r => Nx.now k n r
  unfold subD at hg
  split at hg
  · split at hg
    · rename_i hd
      cases Option.some.inj hg
      obtain ⟨a, xs, rfl, h1, q1⟩ := r1.lst k
      obtain ⟨v', h2, r3⟩ := atI_rep q1 hd
      exact ix_list value slice pins s σ _ _ _ v u Q I rx ry ⟨a, xs, _, v', rfl, rep_int r2, SqL.of h1, h2, now r3⟩ hs
    · cases hg
  · split at hg
    · rename_i hd
      cases Option.some.inj hg
      obtain ⟨a, xs, rfl, h1, q1⟩ := r1.tup k
      obtain ⟨v', h2, r3⟩ := atI_rep q1 hd
      exact ix_tup value slice pins s σ _ _ _ v u Q I rx ry ⟨a, xs, _, v', rfl, rep_int r2, SqT.of h1, h2, now r3⟩ hs
    · cases hg
  · split at hg
    · rename_i hl
      split at hg
      · rename_i c hc
        cases Option.some.inj hg
        exact ix_str value slice pins s σ _ _ _ v u Q I rx ry ⟨_, _, c, r1.str, rep_int r2, by rw [str_len, ← lim_eq]; exact hl, by simpa using hc, now (by simp only [RepV])⟩ hs
      · cases hg
    · cases hg
  · cases hg
def rSlice (G : Gam) : V → Option Int → Option Int → Hp → VK → Prop := fun x lo hi H Q => ∃ w S b d z, w.H = H ∧ Ok G w S b ∧ RepR G w d x ∧ sliceD d lo hi = some z ∧ Nx G w S b z Q
theorem slice_ok : SlR X (rSlice G) := by
  intro pins s σ H x v vl vu lo hi sl Q I rx hs pl pu h
  obtain ⟨w, S, b, d, z, rfl, k, r1, hg, n⟩ := h
  have now : ∀ {v : V}, RepV G w.p w.B z v → Q v w.H := fun r => Nx.now k n r
  unfold sliceD at hg
  split at hg
  · cases Option.some.inj hg
    obtain ⟨a, xs, rfl, h1, q1⟩ := r1.lst k
    exact sl_list pins s σ _ _ v vl vu lo hi sl Q I rx hs pl pu ⟨a, xs, rfl, SqL.of h1, fun p hp => n.lst k (cutL_rep q1) hp⟩
  · cases Option.some.inj hg
    have r2 := r1.of (.inr ⟨_, rfl⟩)
    obtain ⟨a, xs, rfl, h1, q1⟩ := r1.tup k
    refine sl_tupA pins s σ _ _ v vl vu lo hi sl Q I rx hs pl pu ⟨a, xs, rfl, SqT.of h1, fun hw => ?_, fun _ p hp => n.tup k (cutL_rep q1) hp⟩
    have e : ∀ ds : List D, ds.length = xs.length → cutL ds lo hi = ds := fun ds hd => by
      unfold cutL
      rw [hd, hw.1, hw.2]
      simp [← hd]
    have r3 := r2
    rw [← e _ q1.length.symm] at r3
    exact now r3
  · split at hg
    · rename_i hl
      cases Option.some.inj hg
      refine sl_str pins s σ _ _ v vl vu lo hi sl Q I rx hs pl pu ⟨_, r1.str, by rw [str_len, ← lim_eq]; exact hl, ?_⟩
      refine now ?_
      simp only [RepV]
      unfold cutS cutL
      rw [str_len]
    · cases hg
  · cases hg
def rMe (G : Gam) (m : Me) : V → List V → Hp → VK → Prop := fun x xs H Q => ∃ w S b d ds z, w.H = H ∧ Ok G w S b ∧ RepR G w d x ∧ RepRs G w ds xs ∧ meD m d ds = some z ∧ Nx G w S b z Q
theorem join_ok : MtR X "str.join" (rMe G .join) := by
  intro pins s σ H x xs v us Q I rx rs h
  obtain ⟨w, S, b, d, ds, z, rfl, k, r1, r2, hg, n⟩ := h
  have now : ∀ {v : V}, RepV G w.p w.B z v → Q v w.H := fun r => Nx.now k n r
  unfold meD at hg
  split at hg
  · split at hg
    · rename_i ts ht
      split at hg
      · rename_i hl
        cases Option.some.inj hg
        obtain ⟨u, rfl, r3⟩ := reps1 r2
        obtain ⟨a, ys, rfl, h1, q1⟩ := r3.lst k
        rw [strsD_rep ht q1] at h1
        refine mt_join pins s σ _ x _ v us Q I rx rs ⟨_, a, _, r1.str, rfl, .inl (SqL.of h1), ?_, ?_⟩
        · rw [lens_str, List.length_map, str_len]
          exact hl
        · show Q (.str (Builtin.Str.glued _ _)) w.H
          rw [PySem.StrLaws.glued_eq_join, joinL_str]
          exact now (by simp only [RepV])
      · cases hg
    · cases hg
  · cases hg
end
end RL
end

section
set_option Elab.async false
set_option linter.all false
set_option maxHeartbeats 2000000
/-! RL9: the text that code stands for; calls. Own work. -/
namespace RL
open PySem PySem.Spec PyProof.Rows L2

/-- what names mean: slots, what may be stored, module constants, defs (name, number, parameters), keyword calls (def, positional ones, names, order), the drawing def, built-ins -/
structure Nm where
  N : List Str
  sc : Scope
  st : List Str
  gl : List (Str × D)
  fns : List (Str × Nat × Nat)
  kbs : List (Nat × Nat × List Str × List Nat)
  drw : Str
  blt : List Str

def okName (x : Str) : Bool := !(x == ("__debug__" : Str)) && !(x == ("__classdict__" : Str))
def visB (sc : Scope) (x : Str) : Bool := match sc.names.lookup x with
  | some .local => true
  | some .cell => true
  | some .free => true
  | _ => false
def locB (sc : Scope) (x : Str) : Bool := match sc.names.lookup x with
  | some .local => true
  | some .cell => true
  | _ => false
def glB (sc : Scope) (x : Str) : Bool := match sc.names.lookup x with
  | some .globalImplicit => true
  | _ => false
/-- a name's slot that may be stored -/
def stB (Γ : Nm) (i : Nat) (x : Str) : Bool := decide (Γ.N[i]? = some x) && locB Γ.sc x && (decide (x ∈ Γ.st) || decide (Γ.sc.names.lookup x = some .local))
def datB : D → Const → Bool
  | .non, .none => true
  | .bl b, .bool c => b == c
  | .int i, .int j => i == j
  | .str cs, .str x => decide (x = ⟨cs.toArray⟩)
  | _, _ => false
def sameB : D → D → Bool
  | .non, .non => true
  | .bl b, .bl c => b == c
  | .int i, .int j => i == j
  | .str cs, .str ds => cs == ds
  | _, _ => false
def biN : Bi → Str
  | .len => "len"
  | .repr => "repr"
  | .int => "int"
  | .abs => "abs"
  | .all => "all"
  | .sum => "sum"
  | .tuple => "tuple"
  | .list => "list"
  | .max => "max"
  | .min => "min"
def tyS : Ty → Str
  | .int => "int"
  | .bool => "bool"
  | .str => "str"
  | .list => "list"
  | .tuple => "tuple"
  | .dict => "dict"
def notStar : Expr → Bool
  | .Starred .. => false
  | _ => true
def notCall : Expr → Bool
  | .Call .. => false
  | _ => true
def notSet : Expr → Bool
  | .Set .. => false
  | _ => true
def notSlice : Expr → Bool
  | .Slice .. => false
  | _ => true
def notComp : Expr → Bool
  | .ListComp .. => false
  | .SetComp .. => false
  | .DictComp .. => false
  | _ => true
def notIf : Expr → Bool
  | .IfExp .. => false
  | _ => true
/-- an expression whose test is its value's truth -/
def plainT : Expr → Bool
  | .UnaryOp .Not _ _ => false
  | .BoolOp .. => false
  | .IfExp .. => false
  | .Compare .. => false
  | _ => true
def bltB (Γ : Nm) (x : Str) : Bool := glB Γ.sc x && decide (x ∈ Γ.blt) && okName x && !(x == ("__name__" : Str))
def tyB (Γ : Nm) (t : Ty) : Expr → Bool
  | .Name x _ => decide (x = tyS t) && bltB Γ x
  | _ => false
def tysB (Γ : Nm) : List Ty → List Expr → Bool
  | [], [] => true
  | t :: ts, e :: es => tyB Γ t e && tysB Γ ts es
  | _, _ => false
mutual
/-- a target -/
def chP : Pat → Nm → Expr → Bool
  | .name i, Γ, .Name x _ => stB Γ i x
  | .nil, Γ, .Tuple [] _ _ => true
  | .cons p q, Γ, .Tuple es _ _ => chPs (.cons p q) Γ es
  | _, _, _ => false
def chPs : Pat → Nm → List Expr → Bool
  | .nil, _, [] => true
  | .cons p q, Γ, e :: es => chP p Γ e && notStar e && chPs q Γ es
  | _, _, _ => false
end
/-- the names of a target's slots -/
def Pat.own (N : List Str) (p : Pat) : List (Str × Nat) := p.slots.filterMap fun i => N[i]?.map fun x => (x, i)
/-- within a comprehension's block -/
def Nm.blk (Γ : Nm) (scope : Scope) : Nm := { Γ with sc := relS scope Γ.sc, st := (scope.names.filter fun y => y.2 == .cell && decide (scope.names.lookup y.1 = some .cell)).map (·.1) }

mutual
def chE : Ex → Nm → Expr → Bool
  | .var i, Γ, .Name x _ => decide (Γ.N[i]? = some x) && visB Γ.sc x && okName x
  | .dat d, _, .Constant c _ _ => datB d c
  | .glb y d, Γ, .Name x _ => decide (x = y) && glB Γ.sc x && okName x && (match Γ.gl.lookup x with
    | some d' => sameB d d'
    | none => false)
  | .bin o a b, Γ, .BinOp e op f _ => decide (op = opB o) && chE a Γ e && chE b Γ f
  | .neg a, Γ, .UnaryOp .USub e _ => chE a Γ e
  | .cmp o a b, Γ, .Compare e [op] [f] _ => decide (op = opC o) && chE a Γ e && chE b Γ f && !behindInMarks op f
  | .chain o p a b c, Γ, .Compare e [op, op'] [f, g] _ => decide (op = opC o) && decide (op' = opC p) && chE a Γ e && chE b Γ f && chE c Γ g && !lastMarks [op, op'] [f, g]
  | .and a b, Γ, .BoolOp .And (e :: f :: r) pos => chE a Γ e && notIf e && notIf f && (match r with
    | [] => chE b Γ f
    | _ => chE b Γ (.BoolOp .And (f :: r) pos))
  | .or a b, Γ, .BoolOp .Or (e :: f :: r) pos => chE a Γ e && notIf e && notIf f && (match r with
    | [] => chE b Γ f
    | _ => chE b Γ (.BoolOp .Or (f :: r) pos))
  | .not a, Γ, .UnaryOp .Not e _ => chE a Γ e && notIf e
  | .ite c a b, Γ, .IfExp e f g _ => chE c Γ e && notIf e && chE a Γ f && chE b Γ g
  | .call f as, Γ, .Call (.Name x _) es [] _ => glB Γ.sc x && okName x && decide ((x, f, es.length) ∈ Γ.fns) && chL as Γ es
  | .callk f perm as ks, Γ, .Call (.Name x _) es kws _ => glB Γ.sc x && okName x && Γ.fns.any (fun q => decide (q.1 = x ∧ q.2.1 = f ∧ q.2.2 = es.length + kws.length)) && decide ((f, es.length, kws.filterMap (·.arg), perm) ∈ Γ.kbs) && kws.all (·.arg.isSome) && !kws.isEmpty && chL as Γ es && chL ks Γ (kws.map (·.value))
  | .bi b as, Γ, .Call (.Name x _) [e] [] _ => decide (x = biN b) && bltB Γ x && chL as Γ [e]
  | .bi b as, Γ, .Call (.Name x _) [e, f] [] _ => decide (x = biN b) && bltB Γ x && chL as Γ [e, f]
  | .calls f as, Γ, .Call (.Name x _) es [] _ => glB Γ.sc x && okName x && decide ((x, f, es.length) ∈ Γ.fns) && chL as Γ es
  | .rev a, Γ, .Subscript e (.Slice none none (some (.UnaryOp .USub (.Constant (.int 1) _ _) _)) _) _ => chE a Γ e
  | .catM a b, Γ, .BinOp e .Add f _ => chE a Γ e && chE b Γ f
  | .repM a b, Γ, .BinOp e .Mult f _ => chE a Γ e && chE b Γ f
  | .isi a ts, Γ, .Call (.Name x _) [e, t] [] _ => decide (x = ("isinstance" : Str)) && bltB Γ x && chE a Γ e && notStar e && (match ts, t with
    | [ty], t => tyB Γ ty t || (match t with
      | .Tuple cs _ _ => tysB Γ [ty] cs
      | _ => false)
    | ts, .Tuple cs _ _ => tysB Γ ts cs && decide (ts.length ≤ 100) && decide (ts ≠ [])
    | _, _ => false)
  | .draw p n, Γ, .Call (.Name x _) [e, f] [] _ => decide (x = Γ.drw) && decide (x ≠ ("" : Str)) && glB Γ.sc x && okName x && chE p Γ e && chE n Γ f && notStar e && notStar f
  | .me .join o as, Γ, .Call (.Attribute e n apos) [f] [] cpos => decide (n = ("join" : Str)) && decide (apos.endLine = cpos.line) && notCall e && chE o Γ e && chL as Γ [f]
  | .sub a i, Γ, .Subscript e f _ => chE a Γ e && chE i Γ f && notSlice f
  | .slice a lo hi, Γ, .Subscript e (.Slice l h none _) _ => chE a Γ e && chL lo Γ l.toList && chL hi Γ h.toList
  | .lst _ es, Γ, .List fs _ => chL es Γ fs
  | .tup es, Γ, .Tuple fs _ _ => chL es Γ fs
  | .comp _ _ pt k src cond elt, Γ, .ListComp e [⟨tg, it, ifs, as⟩] scope _ => decide (as = 0) && notSet it && blkC Γ.N Γ.sc scope (pt.own Γ.N) && chP pt (Γ.blk scope) tg && notStar tg && chE elt (Γ.blk scope) e &&
      (match ifs with
        | [] => (match cond with
          | .dat (.bl true) => true
          | _ => false)
        | [c] => chE cond (Γ.blk scope) c && notIf c
        | _ => false) &&
      (match k, it with
        | .val, it => chL src Γ [it]
        | .range, .Call (.Name x _) [e1] [] _ => decide (x = ("range" : Str)) && bltB Γ x && chL src Γ [e1]
        | .range, .Call (.Name x _) [e1, e2] [] _ => decide (x = ("range" : Str)) && bltB Γ x && chL src Γ [e1, e2]
        | .enum, .Call (.Name x _) [e1] [] _ => decide (x = ("enumerate" : Str)) && bltB Γ x && chL src Γ [e1] && isTup tg
        | .zip, .Call (.Name x _) [e1, e2] [] _ => decide (x = ("zip" : Str)) && bltB Γ x && chL src Γ [e1, e2] && isTup tg
        | _, _ => false)
  | .frz a, Γ, e => chE a Γ e && plainT e
  | .dct0, _, .Dict [] [] _ => true
  | _, _, _ => false
def chL : Ex → Nm → List Expr → Bool
  | .nil, _, [] => true
  | .cons a as, Γ, e :: es => chE a Γ e && notStar e && chL as Γ es
  | _, _, _ => false
def isTup : Expr → Bool
  | .Tuple .. => true
  | _ => false
end
end RL
end

section
set_option Elab.async false
set_option linter.all false
set_option maxHeartbeats 2000000
/-! RL10: calls of the text's own defs, where no repr runs around; what a body may lean on. Own work. -/
namespace RL
open PySem PySem.Spec PyProof.Rows L2

/-- a def keeps its promise, called where no guard stands -/
structure FnG (P : Program) (wo : World) (K : PySem.W.Frag) (mg : Str → Option Value) (base : Heap) (CX : CXT) (k : Nat) (f : Addr) (fd : FuncData) (ps : List Str) (sp : Sp) : Prop where
  len : ∀ vs H Q E, sp vs H Q E → vs.length = ps.length
  run : ∀ (A : Around) (outer : List Env) (s : Shared) (H : Hp) (args : Args) (us : List Value) (vs : List V) (Q : VK) (E : XK), Room k A → A.guards = some [] → Env0 P wo K mg base A outer s H → BindsTo s fd args (ps.zip us) → Vals vs us → sp vs H Q E →
    codeAny (model P wo) A (.call (.ref f) args) (CR CX outer P wo H s Q E) s
section
variable {P : Program} {wo : World} {K : PySem.W.Frag} {mg : Str → Option Value} {base : Heap}
theorem FnG.mono {CX : CXT} {j k : Nat} {f : Addr} {fd : FuncData} {ps : List Str} {sp : Sp} (F : FnG P wo K mg base CX j f fd ps sp) (h : j ≤ k) : FnG P wo K mg base CX k f fd ps sp :=
  ⟨F.len, fun A outer s H args us vs Q E hr => F.run A outer s H args us vs Q E (hr.mono h)⟩
theorem FnG.imp {CX : CXT} {k : Nat} {f : Addr} {fd : FuncData} {ps : List Str} {sp sp' : Sp} (F : FnG P wo K mg base CX k f fd ps sp) (h : ∀ vs H Q E, sp' vs H Q E → sp vs H Q E) : FnG P wo K mg base CX k f fd ps sp' :=
  ⟨fun vs H Q E q => F.len vs H Q E (h _ _ _ _ q), fun A outer s H args us vs Q E hr hg he hb hv hs => F.run A outer s H args us vs Q E hr hg he hb hv (h _ _ _ _ hs)⟩
theorem FnG.of {CX : CXT} {k : Nat} {f : Addr} {fd : FuncData} {ps : List Str} {sp : Sp} (F : FnOk P wo K mg base CX k f fd ps sp) : FnG P wo K mg base CX k f fd ps sp :=
  ⟨F.len, fun A outer s H args us vs Q E hr _ => F.run A outer s H args us vs Q E hr⟩
/-- a def by its body -/
theorem fnG_of {CX : CXT} {k : Nat} {f : Addr} {name qual : Str} {params : Arguments} {body : List Stmt} {scope : Scope} {dV kV doc pm cdv ct oc : Value} {an od : Option Addr}
    {osl : Array (Option Value)} {N ps : List Str} {sp : Sp} (lk : K.lookup f = some ⟨oc, od, .func (PySem.W.fnOf name qual params body scope dV kV doc pm an cdv ct), osl⟩) (hcd : PySem.W.codeIn K cdv qual = true) (S : FnScope N ps scope)
    (len : ∀ vs H Q E, sp vs H Q E → vs.length = ps.length)
    (hbody : ∀ (A : Around) (outer : List Env) (s : Shared) (H : Hp) (vs : List V) (Q : VK) (E : XK), Room k (A.deeper (envOfC qual scope s.heap.objs.size f cdv)) → A.guards = some [] → sp vs H Q E →
      ∃ t, PSs (cxOf CX P wo K mg base N qual scope f cdv A outer s H E) body t ∧ t { nx := fun _ H' => Q .non H', rt := Q } (start N vs) H) :
    FnG P wo K mg base CX (k + 1) f (PySem.W.fnOf name qual params body scope dV kV doc pm an cdv ct) ps sp := by
  refine ⟨len, fun A outer s H args us vs Q E hr hgd e0 hb r hsp => ?_⟩
  have hl := len _ _ _ _ hsp
  have KX : K.In s.heap := e0.mod.kin.keeps fun b o e => (e0.bs b o e).1
  have lim : s.heap.NoLimit := e0.mod.nolimit.keeps fun b o e => (e0.bs b o e).1
  have hkind : ∀ y ∈ ps.zip us, scope.names.lookup y.1 = some .local ∨ (scope.names.lookup y.1 = some .cell ∧ ((cellsFrom (s.heap.objs.size + 1) scope.names []).lookup y.1).isSome = true) := fun ⟨n, v⟩ hy => by
    rcases S.par n (List.of_mem_zip hy).1 with q | q
    · exact .inl q
    · exact .inr ⟨q, PySem.W.cellsFrom_some _ _ _ (.inl q)⟩
  refine codeAny_call_function hr.depth (KX _ _ lk) rfl S.co S.gen rfl (PySem.W.codeRec_of KX hcd) (hb _ _ _ _ ?_)
  refine wpAny_newFunctionEnv_cells S.kind hkind fun env he s1 x => ?_
  subst he
  refine ⟨lim.keeps x.toInCall.keep, codeAny_func ?_⟩
  obtain ⟨t, ht, hq⟩ := hbody A outer s H vs Q E (hr.deeper _) hgd hsp
  have I : Inv (cxOf CX P wo K mg base N qual scope f cdv A outer s H E) [] (start N vs) H s1 := inv_start S hr.hd e0 hl r x
  refine wpAny_mono (ht.run [] s1 (start N vs) H _ I hq) (fun fl s' hs => ?_) fun e s' hs => hs
  have fin : ∀ {σ' : L2.St} {H' : Hp} {v : V} {u : Value}, Inv (cxOf CX P wo K mg base N qual scope f cdv A outer s H E) [] σ' H' s' → RelV v u → Q v H' → CE outer P wo H s Q u s' :=
    fun {σ' H' v u} J rv q => ⟨v, H', J.os, J.bare, J.base, J.hok, rv, q⟩
  cases fl with
  | ret u =>
    obtain ⟨v, σ', H', J, rv, q⟩ := hs
    exact fin J rv q
  | next =>
    obtain ⟨σ', H', J, q⟩ := hs
    exact fin (v := V.non) (u := Value.none) J rfl q
  | brk =>
    obtain ⟨_, _, _, q⟩ := hs
    exact False.elim q
  | cont =>
    obtain ⟨_, _, _, q⟩ := hs
    exact False.elim q
end

/-- the callee runs -/
theorem run_fnG {X : Cx} {CX : CXT} {k : Nat} {f : Addr} {fd : FuncData} {ps : List Str} {sp : Sp} {E : XK} {pins : List (Addr × Obj)} {σ : L2.St} {H : Hp} {s : Shared} {Q : VK} {us : List Value} {kw : List (Str × Value)} {bs : List Value} {vs : List V}
    (F : FnG X.prog X.w X.K X.mg X.base CX k f fd ps sp) (hr : Room k X.A) (hg : X.A.guards = some []) (hb : BindsTo s fd ⟨us, kw⟩ (ps.zip bs)) (hx : Passes CX X E)
    (I : Inv X pins σ H s) (r : Vals vs bs) (h : sp vs H Q E) : wpAny (model X.prog X.w) X.A (call (.ref f) us kw) (EP X pins σ Q) X.xe s := by
  refine wpAny_call (codeAny_mono (F.run X.A X.stack s H ⟨us, kw⟩ bs vs Q E hr hg I.env0 hb r h) fun r s' hq => ?_)
  cases r with
  | error e => exact hx pins σ H s e s' I hq
  | ok fl =>
    cases fl with
    | ret u => exact I.after hq
    | next => exact False.elim hq
    | brk => exact False.elim hq
    | cont => exact False.elim hq

/-- what a def of the text promises: data in, data out, as C says -/
def spC (G : Gam) (C : Calls) (f ar : Nat) : Sp := fun vs H Q E => ∃ w S b ws, w.H = H ∧ Ok G w S b ∧ ws.length = ar ∧ RepWs G w ws vs ∧ (C f ws S).wpb b (Go G w Q) (EX G E w)
/-- what the drawing def promises: a number below n -/
def spDraw (G : Gam) : Sp := fun vs H Q E => ∃ w S b n, w.H = H ∧ Ok G w S (b + 1) ∧ (∃ q, w.p = some q ∧ vs = [.ref q, .int n]) ∧ 0 < n ∧ n < 2 ^ 1000 ∧ ∀ v w', 0 ≤ v → v < n → Le w w' → Ok G w' S b → Q (.int v) w'.H

def permV (perm : List Nat) (us : List Value) : List Value := perm.filterMap fun j => us[j]?
/-- what a body leans on: the defs that it calls, each at a level -/
structure Lk (P : Program) (wo : World) (K : PySem.W.Frag) (mg : Str → Option Value) (base : Heap) (CX : CXT) (G : Gam) (C : Calls) (k : Nat) (Γ : Nm) : Prop where
  fn : ∀ x f ar, (x, f, ar) ∈ Γ.fns → ∃ fd ps, mg x = some (.ref (G.fnA f)) ∧ PySem.W.keepIn K (.ref (G.fnA f)) = true ∧ FnG P wo K mg base CX k (G.fnA f) fd ps (spC G C f ar) ∧
    (∀ (s : Shared) (us : List Value), K.In s.heap → us.length = ar → BindsTo s fd ⟨us, []⟩ (ps.zip us)) ∧
    (∀ np ks perm, (f, np, ks, perm) ∈ Γ.kbs → ∀ (s : Shared) (us ws : List Value), K.In s.heap → us.length = np → ws.length = ks.length → us.length + ws.length = ar → BindsTo s fd ⟨us, ks.zip ws⟩ (ps.zip (permV perm (us ++ ws)))) ∧
    ∀ ws S b Q E, (C f ws S).wpb b Q E → ws.length = ar
  drw : Γ.drw ≠ ("" : Str) → ∃ a fd ps, mg Γ.drw = some (.ref a) ∧ PySem.W.keepIn K (.ref a) = true ∧ FnG P wo K mg base CX k a fd ps (spDraw G) ∧ ∀ (s : Shared) (us : List Value), K.In s.heap → us.length = 2 → BindsTo s fd ⟨us, []⟩ (ps.zip us)
  gl : ∀ x d, Γ.gl.lookup x = some d → ∃ u v, mg x = some u ∧ RelV v u ∧ ∀ p B, RepV G p B d v
  blt : ∀ x ∈ Γ.blt, mg x = none

/-- a context in which code of that text runs -/
structure SC (X : Cx) (CX : CXT) (G : Gam) (C : Calls) (E : XK) (k : Nat) (Γ : Nm) : Prop where
  lk : Lk X.prog X.w X.K X.mg X.base CX G C k Γ
  N : X.N = Γ.N
  sc : X.env.scope = Γ.sc
  st : ∀ x ∈ Γ.st, X.fn x = true
  calm : X.calm = true
  nd : X.N.Nodup
  gd : X.A.guards = some []
  room : Room k X.A
  pas : Passes CX X E
  own : PassesOwn (model X.prog X.w) X.A X.env X.xe
  pas0 : ∀ X1 : Cx, Passes CX X1 E0
section
variable {X : Cx} {CX : CXT} {G : Gam} {C : Calls} {E : XK} {k : Nat} {Γ : Nm}
theorem SC.hu (h : SC X CX G C E k Γ) : X.A.units + 100 < cLine := by
  have := h.room.un
  omega
theorem SC.vis (h : SC X CX G C E k Γ) {x : Str} (hv : visB Γ.sc x = true) : Vis X.env.scope x := by
  rw [h.sc]
  unfold visB at hv
  split at hv
  · exact .inl (by assumption)
  · exact .inr (.inl (by assumption))
  · exact .inr (.inr (by assumption))
  · cases hv
theorem SC.loc (h : SC X CX G C E k Γ) {x : Str} (hv : locB Γ.sc x = true) : Loc X.env.scope x := by
  rw [h.sc]
  unfold locB at hv
  split at hv
  · exact .inl (by assumption)
  · exact .inr (by assumption)
  · cases hv
theorem SC.gl (h : SC X CX G C E k Γ) {x : Str} (hv : glB Γ.sc x = true) : Gl X x := by
  show X.env.scope.names.lookup x = _
  rw [h.sc]
  unfold glB at hv
  split at hv
  · assumption
  · cases hv
theorem okName_ok {x : Str} (h : okName x = true) : (x == ("__debug__" : Str)) = false ∧ (x == ("__classdict__" : Str)) = false := by
  unfold okName at h
  rw [Bool.and_eq_true] at h
  exact ⟨by simpa using h.1, by simpa using h.2⟩
theorem SC.blt (h : SC X CX G C E k Γ) {x : Str} (hv : bltB Γ x = true) : Gl X x ∧ X.mg x = none ∧ (x == ("__debug__" : Str)) = false ∧ x ≠ "__name__" := by
  unfold bltB at hv
  simp only [Bool.and_eq_true, decide_eq_true_eq] at hv
  obtain ⟨⟨⟨h1, h2⟩, h3⟩, h4⟩ := hv
  exact ⟨h.gl h1, h.lk.blt x h2, (okName_ok h3).1, by simpa using h4⟩
theorem starOf {e : Expr} {es : List Expr} {env : Env} (h : notStar e = true) : starEach (e :: es) env = (false, eval e env) :: starEach es env := by
  cases e <;> first | rfl | cases h
theorem noStars {pos : Pos} {env : Env} : ∀ {es : List Expr}, es.all notStar = true → (backTo pos (starEach es env)).any (·.1) = false
  | [], _ => rfl
  | e :: es, h => by
    rw [List.all_cons, Bool.and_eq_true] at h
    rw [starOf h.1]
    show (false || (backTo pos (starEach es env)).any (·.1)) = false
    rw [noStars h.2]
    rfl
theorem chL_stars {as : Ex} {Γ : Nm} {es : List Expr} (h : chL as Γ es = true) : es.all notStar = true := by
  induction as generalizing es with
  | nil =>
    cases es with
    | nil => rfl
    | cons e es => simp only [chL] at h; cases h
  | cons a as _ ih =>
    cases es with
    | nil => simp only [chL] at h; cases h
    | cons e es =>
      simp only [chL, Bool.and_eq_true] at h
      rw [List.all_cons, h.1.2, ih h.2]
      rfl
  | _ => simp only [chL] at h; cases h
end
end RL
end

section
set_option Elab.async false
set_option linter.all false
set_option maxHeartbeats 4000000
/-! RL11: expressions mean what the interpreter says (all but comprehensions). Own work. -/
namespace RL
open PySem PySem.Spec PyProof.Rows L2

theorem Go.le {G : Gam} {w w1 : Wd} {Q : V → Hp → Prop} (l : Le w w1) {r : W × Sto} {b : Nat} (h : Go G w Q r b) : Go G w1 Q r b := fun w' v l' k r' => h w' v (l.trans l') k r'
theorem Gos.le {G : Gam} {w w1 : Wd} {Q : List V → Hp → Prop} (l : Le w w1) {r : List W × Sto} {b : Nat} (h : Gos G w Q r b) : Gos G w1 Q r b := fun w' v l' k r' => h w' v (l.trans l') k r'
section
variable {G : Gam} {E : XK} {C : Calls} {σ : L2.St} {env : EnvD} {w : Wd} {S : Sto} {b : Nat}
theorem wle {w1 : Wd} {α : Type} {Q1 : Wd → α → Nat → Prop} (l : Le w w1) {m : M α} (hQ : ∀ a b, Q1 w a b → Q1 w1 a b) (h : m.wpb b (Q1 w) (EX G E w)) : m.wpb b (Q1 w1) (EX G E w1) :=
  m.wpb_mono h (fun a b q => hQ a b q) fun _ _ _ q => EX.le l q
theorem tE_bnd {a : Ex} {kk : W × Sto → M (W × Sto)} {Q R : VK} (k : Ok G w S b) (r : RepE G w env σ) (h : ((evE C a env S).bnd kk).wpb b (Go G w Q) (EX G E w))
    (go : ∀ x b1 w1 v1, Le w w1 → Ok G w1 x.2 b1 → RepW G w1 x.1 v1 → RepE G w1 env σ → (kk x).wpb b1 (Go G w1 Q) (EX G E w1) → R v1 w1.H) : tE G E C a σ w.H R := by
  refine ⟨w, S, env, b, rfl, k, r, ?_⟩
  rw [M.wpb_bnd] at h
  refine (evE C a env S).wpb_mono h (fun x b1 h1 => ?_) fun _ _ _ q => q
  intro w1 v1 l1 k1 r1
  exact go x b1 w1 v1 l1 k1 r1 (r.le l1) (wle (Q1 := fun w => Go G w Q) l1 (fun _ _ q => Go.le l1 q) h1)
theorem tE_bnds {a : Ex} {kk : W × Sto → M (List W × Sto)} {Q : List V → Hp → Prop} {R : VK} (k : Ok G w S b) (r : RepE G w env σ) (h : ((evE C a env S).bnd kk).wpb b (Gos G w Q) (EX G E w))
    (go : ∀ x b1 w1 v1, Le w w1 → Ok G w1 x.2 b1 → RepW G w1 x.1 v1 → RepE G w1 env σ → (kk x).wpb b1 (Gos G w1 Q) (EX G E w1) → R v1 w1.H) : tE G E C a σ w.H R := by
  refine ⟨w, S, env, b, rfl, k, r, ?_⟩
  rw [M.wpb_bnd] at h
  refine (evE C a env S).wpb_mono h (fun x b1 h1 => ?_) fun _ _ _ q => q
  intro w1 v1 l1 k1 r1
  exact go x b1 w1 v1 l1 k1 r1 (r.le l1) (wle (Q1 := fun w => Gos G w Q) l1 (fun _ _ q => Gos.le l1 q) h1)
theorem tA_bnd {a : Ex} {kk : List W × Sto → M (W × Sto)} {Q : VK} {R : List V → Hp → Prop} (k : Ok G w S b) (r : RepE G w env σ) (h : ((evL C a env S).bnd kk).wpb b (Go G w Q) (EX G E w))
    (go : ∀ x b1 w1 v1, Le w w1 → Ok G w1 x.2 b1 → RepWs G w1 x.1 v1 → RepE G w1 env σ → (kk x).wpb b1 (Go G w1 Q) (EX G E w1) → R v1 w1.H) : tA G E C a σ w.H R := by
  refine ⟨w, S, env, b, rfl, k, r, ?_⟩
  rw [M.wpb_bnd] at h
  refine (evL C a env S).wpb_mono h (fun x b1 h1 => ?_) fun _ _ _ q => q
  intro w1 v1 l1 k1 r1
  exact go x b1 w1 v1 l1 k1 r1 (r.le l1) (wle (Q1 := fun w => Go G w Q) l1 (fun _ _ q => Go.le l1 q) h1)
theorem tA_bnds {a : Ex} {kk : List W × Sto → M (List W × Sto)} {Q R : List V → Hp → Prop} (k : Ok G w S b) (r : RepE G w env σ) (h : ((evL C a env S).bnd kk).wpb b (Gos G w Q) (EX G E w))
    (go : ∀ x b1 w1 v1, Le w w1 → Ok G w1 x.2 b1 → RepWs G w1 x.1 v1 → RepE G w1 env σ → (kk x).wpb b1 (Gos G w1 Q) (EX G E w1) → R v1 w1.H) : tA G E C a σ w.H R := by
  refine ⟨w, S, env, b, rfl, k, r, ?_⟩
  rw [M.wpb_bnd] at h
  refine (evL C a env S).wpb_mono h (fun x b1 h1 => ?_) fun _ _ _ q => q
  intro w1 v1 l1 k1 r1
  exact go x b1 w1 v1 l1 k1 r1 (r.le l1) (wle (Q1 := fun w => Gos G w Q) l1 (fun _ _ q => Gos.le l1 q) h1)
/-- the end: a value now -/
theorem Go.now (k : Ok G w S b) {x : W} {v : V} {Q : VK} (h : Go G w Q (x, S) b) (r : RepW G w x v) : Q v w.H := h w v (Le.refl w) k r
theorem Go.nx {z : D} {Q : VK} (h : Go G w Q (.d z, S) b) : Nx G w S b z Q := fun w' v l k r => h w' v l k r
end

section
variable {X : Cx} {CX : CXT} {G : Gam} {C : Calls} {E : XK} {k : Nat} {Γ : Nm}

theorem c_var {i : Nat} {x : Str} {pos : Pos} (s : SC X CX G C E k Γ) (hN : Γ.N[i]? = some x) (hv : visB Γ.sc x = true) (ho : okName x = true) : PE X (.Name x pos) (tE G E C (.var i)) := by
  refine PE.imp (pe_var (i := i) (by rw [s.N]; exact hN) (s.vis hv) (okName_ok ho).1 (okName_ok ho).2) fun σ H Q ⟨w, S, env, b, hw, kk, r, h⟩ => ?_
  subst hw
  simp only [evE] at h
  split at h
  · rename_i x' he
    obtain ⟨v, e1, r1⟩ := r.at_ i _ he
    exact ⟨v, e1, Go.now kk h r1⟩
  · exact h.elim
theorem c_dat {d : D} {c : Const} {n : Nat} {pos : Pos} (h : datB d c = true) : PE X (.Constant c n pos) (tE G E C (.dat d)) := by
  have go : ∀ {v : V}, (∀ p B, RepV G p B d v) → ∀ σ H Q, tE G E C (.dat d) σ H Q → tC v σ H Q := fun {v} hr σ H Q ⟨w, S, env, b, hw, kk, r, h⟩ => by
    subst hw
    simp only [evE] at h
    exact Go.now kk h (hr _ _)
  cases d <;> cases c <;> simp only [datB] at h <;> try (cases h; done)
  · exact PE.imp pe_non (go fun _ _ => by simp only [RepV])
  · rename_i b1 b2
    rw [beq_iff_eq] at h
    subst h
    exact PE.imp pe_bl (go fun _ _ => by simp only [RepV])
  · rename_i b1 b2
    rw [beq_iff_eq] at h
    subst h
    exact PE.imp pe_int (go fun _ _ => by simp only [RepV])
  · rename_i b1 b2
    rw [decide_eq_true_eq] at h
    subst h
    exact PE.imp pe_str (go fun _ _ => by simp only [RepV])
theorem sameB_eq : ∀ {d e : D}, sameB d e = true → d = e := fun {d e} h => by
  cases d <;> cases e <;> simp only [sameB] at h <;> first
    | rfl
    | (rw [beq_iff_eq] at h; rw [h])
    | cases h
theorem c_glb {x : Str} {d : D} {pos : Pos} (s : SC X CX G C E k Γ) (hg : glB Γ.sc x = true) (ho : okName x = true) (hl : (match Γ.gl.lookup x with
    | some d' => sameB d d'
    | none => false) = true) : PE X (.Name x pos) (tE G E C (.glb x d)) := by
  split at hl
  · rename_i d' hd
    have e := sameB_eq hl
    subst e
    obtain ⟨u, v, hm, ru, hr⟩ := s.lk.gl x _ hd
    refine PE.imp (pe_glob (s.gl hg) hm ru (okName_ok ho).1) fun σ H Q ⟨w, S, env, b, hw, kk, r, h⟩ => ?_
    subst hw
    simp only [evE] at h
    exact Go.now kk h (hr _ _)
  · cases hl
theorem c_bin {o : BinO} {a b : Ex} {e f : Expr} {pos : Pos} (ha : PE X e (tE G E C a)) (hb : PE X f (tE G E C b)) : PE X (.BinOp e (opB o) f pos) (tE G E C (.bin o a b)) := by
  refine PE.imp (pe_op (bin_ok (G := G) o) ha hb) fun σ H Q ⟨w, S, env, b0, hw, kk, r, h⟩ => ?_
  subst hw
  simp only [evE] at h
  refine tE_bnd kk r h fun x b1 w1 v1 l1 k1 r1 re1 h1 => ?_
  refine tE_bnd k1 re1 h1 fun y b2 w2 v2 l2 k2 r2 re2 h2 => ?_
  obtain ⟨u, eu, h2⟩ := wpb_opt.mp h2
  obtain ⟨v, ev, h2⟩ := wpb_opt.mp h2
  obtain ⟨z, ez, h2⟩ := wpb_opt.mp h2
  exact ⟨w2, y.2, b2, u, v, z, rfl, k2, rdR k2 (l2.rep r1) eu, rdR k2 r2 ev, ez, Go.nx h2⟩
theorem c_neg {a : Ex} {e : Expr} {pos : Pos} (ha : PE X e (tE G E C a)) : PE X (.UnaryOp .USub e pos) (tE G E C (.neg a)) := by
  refine PE.imp (pe_un un_neg ha) fun σ H Q ⟨w, S, env, b0, hw, kk, r, h⟩ => ?_
  subst hw
  simp only [evE] at h
  refine tE_bnd kk r h fun x b1 w1 v1 l1 k1 r1 re1 h1 => ?_
  obtain ⟨u, eu, h1⟩ := wpb_opt.mp h1
  obtain ⟨z, ez, h1⟩ := wpb_opt.mp h1
  have r2 := dat_ok r1 eu
  cases u <;> try (cases ez; done)
  rename_i i
  have ez' : D.int (-i) = z := Option.some.inj ez
  subst ez'
  exact ⟨i, rep_int r2, Go.now k1 h1 (by simp only [RepW, RepV])⟩
theorem c_cmp {o : CmpO} {a b : Ex} {e f : Expr} {pos : Pos} (s : SC X CX G C E k Γ) (ha : PE X e (tE G E C a)) (hb : PE X f (tE G E C b)) (hm : behindInMarks (opC o) f = false) : PE X (.Compare e [opC o] [f] pos) (tE G E C (.cmp o a b)) := by
  refine PE.imp (pe_cmpR (cmp_ok (G := G) (by have := s.hu; omega) o) ha hb hm) fun σ H Q ⟨w, S, env, b0, hw, kk, r, h⟩ => ?_
  subst hw
  simp only [evE] at h
  refine tE_bnd kk r h fun x b1 w1 v1 l1 k1 r1 re1 h1 => ?_
  refine tE_bnd k1 re1 h1 fun y b2 w2 v2 l2 k2 r2 re2 h2 => ?_
  obtain ⟨u, eu, h2⟩ := wpb_opt.mp h2
  obtain ⟨v, ev, h2⟩ := wpb_opt.mp h2
  obtain ⟨z, ez, h2⟩ := wpb_opt.mp h2
  exact ⟨w2, y.2, b2, u, v, z, rfl, k2, rdR k2 (l2.rep r1) eu, rdR k2 r2 ev, ez, Go.now k2 h2 (by simp only [RepW, RepV])⟩
theorem c_chain {o p : CmpO} {a b c : Ex} {e f g : Expr} {pos : Pos} (s : SC X CX G C E k Γ) (ha : PE X e (tE G E C a)) (hb : PE X f (tE G E C b)) (hc : PE X g (tE G E C c)) (hm : lastMarks [opC o, opC p] [f, g] = false) :
    PE X (.Compare e [opC o, opC p] [f, g] pos) (tE G E C (.chain o p a b c)) := by
  refine PE.imp (pe_chain (cmp_ok (G := G) (by have := s.hu; omega) o) (cmp_ok (G := G) (by have := s.hu; omega) p) ha hb hc hm) fun σ H Q ⟨w, S, env, b0, hw, kk, r, h⟩ => ?_
  subst hw
  simp only [evE] at h
  refine tE_bnd kk r h fun x b1 w1 v1 l1 k1 r1 re1 h1 => ?_
  refine tE_bnd k1 re1 h1 fun y b2 w2 v2 l2 k2 r2 re2 h2 => ?_
  obtain ⟨u, eu, h2⟩ := wpb_opt.mp h2
  obtain ⟨v, ev, h2⟩ := wpb_opt.mp h2
  obtain ⟨z, ez, h2⟩ := wpb_opt.mp h2
  refine ⟨w2, y.2, b2, u, v, z, rfl, k2, rdR k2 (l2.rep r1) eu, rdR k2 r2 ev, ez, z, rfl, ?_⟩
  cases z with
  | false =>
    rw [if_neg Bool.false_ne_true] at h2 ⊢
    exact Go.now k2 h2 (by simp only [RepW, RepV])
  | true =>
    rw [if_pos rfl] at h2 ⊢
    refine tE_bnd k2 re2 h2 fun q b3 w3 v3 l3 k3 r3 re3 h3 => ?_
    obtain ⟨u', eu', h3⟩ := wpb_opt.mp h3
    obtain ⟨v', ev', h3⟩ := wpb_opt.mp h3
    obtain ⟨z', ez', h3⟩ := wpb_opt.mp h3
    exact ⟨w3, q.2, b3, u', v', z', rfl, k3, rdR k3 (l3.rep r2) eu', rdR k3 r3 ev', ez', Go.now k3 h3 (by simp only [RepW, RepV])⟩
theorem c_and {a b : Ex} {e f : Expr} {rest : List Expr} {pos : Pos} (ha : PE X e (tE G E C a)) (hb : PE X (.BoolOp .And (f :: rest) pos) (tE G E C b)) : PE X (.BoolOp .And (e :: f :: rest) pos) (tE G E C (.and a b)) := by
  refine PE.imp (pe_andT ha hb) fun σ H Q ⟨w, S, env, b0, hw, kk, r, h⟩ => ?_
  subst hw
  simp only [evE] at h
  refine tE_bnd kk r h fun x b1 w1 v1 l1 k1 r1 re1 h1 => ?_
  obtain ⟨u, eu, h1⟩ := wpb_opt.mp h1
  obtain ⟨z, ez, h1⟩ := wpb_opt.mp h1
  refine ⟨z, tru_ok ((rdR k1 r1 eu).hp k1) ez, ?_⟩
  cases z with
  | false =>
    rw [if_neg Bool.false_ne_true] at h1 ⊢
    exact Go.now (x := x.1) (S := x.2) k1 h1 r1
  | true =>
    rw [if_pos rfl] at h1 ⊢
    exact ⟨w1, x.2, env, b1, rfl, k1, re1, h1⟩
theorem c_or {a b : Ex} {e f : Expr} {rest : List Expr} {pos : Pos} (ha : PE X e (tE G E C a)) (hb : PE X (.BoolOp .Or (f :: rest) pos) (tE G E C b)) : PE X (.BoolOp .Or (e :: f :: rest) pos) (tE G E C (.or a b)) := by
  refine PE.imp (pe_orT ha hb) fun σ H Q ⟨w, S, env, b0, hw, kk, r, h⟩ => ?_
  subst hw
  simp only [evE] at h
  refine tE_bnd kk r h fun x b1 w1 v1 l1 k1 r1 re1 h1 => ?_
  obtain ⟨u, eu, h1⟩ := wpb_opt.mp h1
  obtain ⟨z, ez, h1⟩ := wpb_opt.mp h1
  refine ⟨z, tru_ok ((rdR k1 r1 eu).hp k1) ez, ?_⟩
  cases z with
  | true =>
    rw [if_pos rfl] at h1 ⊢
    exact Go.now (x := x.1) (S := x.2) k1 h1 r1
  | false =>
    rw [if_neg Bool.false_ne_true] at h1 ⊢
    exact ⟨w1, x.2, env, b1, rfl, k1, re1, h1⟩
theorem c_not {a : Ex} {e : Expr} {pos : Pos} (ha : PE X e (tE G E C a)) : PE X (.UnaryOp .Not e pos) (tE G E C (.not a)) := by
  refine PE.imp (pe_notT ha) fun σ H Q ⟨w, S, env, b0, hw, kk, r, h⟩ => ?_
  subst hw
  simp only [evE] at h
  refine tE_bnd kk r h fun x b1 w1 v1 l1 k1 r1 re1 h1 => ?_
  obtain ⟨u, eu, h1⟩ := wpb_opt.mp h1
  obtain ⟨z, ez, h1⟩ := wpb_opt.mp h1
  exact ⟨z, tru_ok ((rdR k1 r1 eu).hp k1) ez, Go.now k1 h1 (by simp only [RepW, RepV])⟩

/-! ### tests -/
theorem tT_bnd {a : Ex} {σ : L2.St} {env : EnvD} {w : Wd} {S : Sto} {b : Nat} {kk : Bool × Sto → M (W × Sto)} {Q : VK} {R : Bool → Hp → Prop} (kw : Ok G w S b) (r : RepE G w env σ) (h : ((tstE C a env S).bnd kk).wpb b (Go G w Q) (EX G E w))
    (go : ∀ x b1 w1, Le w w1 → Ok G w1 x.2 b1 → RepE G w1 env σ → (kk x).wpb b1 (Go G w1 Q) (EX G E w1) → R x.1 w1.H) : tT G E C a σ w.H R := by
  refine ⟨w, S, env, b, rfl, kw, r, ?_⟩
  rw [M.wpb_bnd] at h
  refine (tstE C a env S).wpb_mono h (fun x b1 h1 => ?_) fun _ _ _ q => q
  intro w1 l1 k1
  exact go x b1 w1 l1 k1 (r.le l1) (wle (Q1 := fun w => Go G w Q) l1 (fun _ _ q => Go.le l1 q) h1)
theorem t_val {a : Ex} {e : Expr} (ha : PE X e (tE G E C a)) (hp : plainT e = true) : PT X e (tT G E C a) := by
  refine PT.imp (pt_truth ha (fun whole => ?_)) fun σ H Q ⟨w, S, env, b0, hw, kk, r, h⟩ => ?_
  · cases e <;> first
      | rfl
      | (cases hp; done)
      | (rename_i op _ _; cases op <;> first | rfl | cases hp)
  · subst hw
    unfold tstE at h
    refine ⟨w, S, env, b0, rfl, kk, r, ?_⟩
    rw [M.wpb_bnd] at h
    refine (evE C a env S).wpb_mono h (fun x b1 h1 => ?_) fun _ _ _ q => q
    intro w1 v1 l1 k1 r1
    obtain ⟨u, eu, h1⟩ := wpb_opt.mp h1
    obtain ⟨z, ez, h1⟩ := wpb_opt.mp h1
    exact ⟨z, tru_ok ((rdR k1 r1 eu).hp k1) ez, h1 w1 l1 k1⟩
theorem Gob.le {w w1 : Wd} {Q : Bool → Hp → Prop} (l : Le w w1) {r : Bool × Sto} {b : Nat} (h : Gob G w Q r b) : Gob G w1 Q r b := fun w' l' k' => h w' (l.trans l') k'
theorem t_and {a b : Ex} {e f : Expr} {rest : List Expr} {pos : Pos} (ha : PT X e (tT G E C a)) (hb : PW X (.BoolOp .And (f :: rest) pos) (tT G E C b)) : PW X (.BoolOp .And (e :: f :: rest) pos) (tT G E C (.and a b)) := by
  refine PW.imp (pw_and ha hb) fun σ H Q ⟨w, S, env, b0, hw, kk, r, h⟩ => ?_
  subst hw
  unfold tstE at h
  simp only [evE] at h
  rw [M.wpb_bnd, M.wpb_bnd] at h
  refine ⟨w, S, env, b0, rfl, kk, r, ?_⟩
  unfold tstE
  rw [M.wpb_bnd]
  refine (evE C a env S).wpb_mono h (fun x b1 h1 => ?_) fun _ _ _ q => q
  obtain ⟨u, eu, h1⟩ := wpb_opt.mp h1
  obtain ⟨z, ez, h1⟩ := wpb_opt.mp h1
  refine wpb_opt.mpr ⟨u, eu, wpb_opt.mpr ⟨z, ez, ?_⟩⟩
  intro w1 l1 k1
  cases z with
  | false =>
    show Q false w1.H
    rw [if_neg Bool.false_ne_true] at h1
    have h1 : (M.opt (rdW x.1 x.2) fun u => M.opt (truD u) fun k => .ret (k, x.2)).wpb b1 (Gob G w Q) (EX G E w) := h1
    rw [eu, opt_some, ez, opt_some] at h1
    exact h1 w1 l1 k1
  | true =>
    show tT G E C b σ w1.H Q
    rw [if_pos rfl] at h1
    refine ⟨w1, x.2, env, b1, rfl, k1, r.le l1, ?_⟩
    unfold tstE
    rw [M.wpb_bnd]
    exact (evE C b env x.2).wpb_mono h1 (fun y b2 q => M.wpb_mono _ q (fun _ _ q => Gob.le l1 q) fun _ _ _ q => EX.le l1 q) fun _ _ _ q => EX.le l1 q
theorem t_or {a b : Ex} {e f : Expr} {rest : List Expr} {pos : Pos} (ha : PT X e (tT G E C a)) (hb : PW X (.BoolOp .Or (f :: rest) pos) (tT G E C b)) : PW X (.BoolOp .Or (e :: f :: rest) pos) (tT G E C (.or a b)) := by
  refine PW.imp (pw_or ha hb) fun σ H Q ⟨w, S, env, b0, hw, kk, r, h⟩ => ?_
  subst hw
  unfold tstE at h
  simp only [evE] at h
  rw [M.wpb_bnd, M.wpb_bnd] at h
  refine ⟨w, S, env, b0, rfl, kk, r, ?_⟩
  unfold tstE
  rw [M.wpb_bnd]
  refine (evE C a env S).wpb_mono h (fun x b1 h1 => ?_) fun _ _ _ q => q
  obtain ⟨u, eu, h1⟩ := wpb_opt.mp h1
  obtain ⟨z, ez, h1⟩ := wpb_opt.mp h1
  refine wpb_opt.mpr ⟨u, eu, wpb_opt.mpr ⟨z, ez, ?_⟩⟩
  intro w1 l1 k1
  cases z with
  | true =>
    show Q true w1.H
    rw [if_pos rfl] at h1
    have h1 : (M.opt (rdW x.1 x.2) fun u => M.opt (truD u) fun k => .ret (k, x.2)).wpb b1 (Gob G w Q) (EX G E w) := h1
    rw [eu, opt_some, ez, opt_some] at h1
    exact h1 w1 l1 k1
  | false =>
    show tT G E C b σ w1.H Q
    rw [if_neg Bool.false_ne_true] at h1
    refine ⟨w1, x.2, env, b1, rfl, k1, r.le l1, ?_⟩
    unfold tstE
    rw [M.wpb_bnd]
    exact (evE C b env x.2).wpb_mono h1 (fun y b2 q => M.wpb_mono _ q (fun _ _ q => Gob.le l1 q) fun _ _ _ q => EX.le l1 q) fun _ _ _ q => EX.le l1 q
theorem t_not {a : Ex} {e : Expr} {pos : Pos} (ha : PT X e (tT G E C a)) : PT X (.UnaryOp .Not e pos) (tT G E C (.not a)) := by
  refine PT.imp (pt_not ha) fun σ H Q ⟨w, S, env, b0, hw, kk, r, h⟩ => ?_
  subst hw
  unfold tstE at h
  simp only [evE] at h
  rw [M.wpb_bnd, M.wpb_bnd] at h
  refine ⟨w, S, env, b0, rfl, kk, r, ?_⟩
  unfold tstE
  rw [M.wpb_bnd]
  refine (evE C a env S).wpb_mono h (fun x b1 h1 => ?_) fun _ _ _ q => q
  obtain ⟨u, eu, h1⟩ := wpb_opt.mp h1
  obtain ⟨z, ez, h1⟩ := wpb_opt.mp h1
  refine wpb_opt.mpr ⟨u, eu, wpb_opt.mpr ⟨z, ez, ?_⟩⟩
  intro w1 l1 k1
  exact h1 w1 l1 k1
theorem tE_bndP {α : Type} {P : Wd → α → Nat → Prop} (hP : ∀ w w1 a b, Le w w1 → P w a b → P w1 a b) {a : Ex} {σ : L2.St} {env : EnvD} {w : Wd} {S : Sto} {b : Nat} {kk : W × Sto → M α} {R : VK} (k : Ok G w S b) (r : RepE G w env σ) (h : ((evE C a env S).bnd kk).wpb b (P w) (EX G E w))
    (go : ∀ x b1 w1 v1, Le w w1 → Ok G w1 x.2 b1 → RepW G w1 x.1 v1 → RepE G w1 env σ → (kk x).wpb b1 (P w1) (EX G E w1) → R v1 w1.H) : tE G E C a σ w.H R := by
  refine ⟨w, S, env, b, rfl, k, r, ?_⟩
  rw [M.wpb_bnd] at h
  refine (evE C a env S).wpb_mono h (fun x b1 h1 => ?_) fun _ _ _ q => q
  intro w1 v1 l1 k1 r1
  exact go x b1 w1 v1 l1 k1 r1 (r.le l1) (wle (Q1 := P) l1 (fun _ _ q => hP _ _ _ _ l1 q) h1)
theorem tA_bndP {α : Type} {P : Wd → α → Nat → Prop} (hP : ∀ w w1 a b, Le w w1 → P w a b → P w1 a b) {a : Ex} {σ : L2.St} {env : EnvD} {w : Wd} {S : Sto} {b : Nat} {kk : List W × Sto → M α} {R : List V → Hp → Prop} (k : Ok G w S b) (r : RepE G w env σ) (h : ((evL C a env S).bnd kk).wpb b (P w) (EX G E w))
    (go : ∀ x b1 w1 v1, Le w w1 → Ok G w1 x.2 b1 → RepWs G w1 x.1 v1 → RepE G w1 env σ → (kk x).wpb b1 (P w1) (EX G E w1) → R v1 w1.H) : tA G E C a σ w.H R := by
  refine ⟨w, S, env, b, rfl, k, r, ?_⟩
  rw [M.wpb_bnd] at h
  refine (evL C a env S).wpb_mono h (fun x b1 h1 => ?_) fun _ _ _ q => q
  intro w1 v1 l1 k1 r1
  exact go x b1 w1 v1 l1 k1 r1 (r.le l1) (wle (Q1 := P) l1 (fun _ _ q => hP _ _ _ _ l1 q) h1)
theorem bnd_assoc {α β γ : Type} : ∀ (m : M α) (f : α → M β) (g : β → M γ), (m.bnd f).bnd g = m.bnd fun a => (f a).bnd g
  | .ret _, _, _ => rfl
  | .exc _ _, _, _ => rfl
  | .stuck, _, _ => rfl
  | .draw n h, f, g => by
    show M.draw n (fun v => ((h v).bnd f).bnd g) = M.draw n fun v => (h v).bnd fun a => (f a).bnd g
    congr 1
    funext v
    exact bnd_assoc (h v) f g
theorem opt_bnd {α β γ : Type} (o : Option α) (f : α → M β) (g : β → M γ) : (M.opt o f).bnd g = M.opt o fun a => (f a).bnd g := by
  cases o <;> rfl
theorem t_cmp {o : CmpO} {a b : Ex} {e f : Expr} {pos : Pos} (s : SC X CX G C E k Γ) (ha : PE X e (tE G E C a)) (hb : PE X f (tE G E C b)) (hm : behindInMarks (opC o) f = false) : PT X (.Compare e [opC o] [f] pos) (tT G E C (.cmp o a b)) := by
  refine PT.imp (pt_cmpR (cmp_ok (G := G) (by have := s.hu; omega) o) ha hb hm) fun σ H Q ⟨w, S, env, b0, hw, kk, r, h⟩ => ?_
  subst hw
  unfold tstE at h
  simp only [evE, bnd_assoc, opt_bnd, bnd_ret] at h
  refine tE_bndP (P := fun w => Gob G w Q) (fun _ _ _ _ l q => Gob.le l q) kk r h fun x b1 w1 v1 l1 k1 r1 re1 h1 => ?_
  refine tE_bndP (P := fun w => Gob G w Q) (fun _ _ _ _ l q => Gob.le l q) k1 re1 h1 fun y b2 w2 v2 l2 k2 r2 re2 h2 => ?_
  obtain ⟨u, eu, h2⟩ := wpb_opt.mp h2
  obtain ⟨v, ev, h2⟩ := wpb_opt.mp h2
  obtain ⟨z, ez, h2⟩ := wpb_opt.mp h2
  exact ⟨w2, y.2, b2, u, v, z, rfl, k2, rdR k2 (l2.rep r1) eu, rdR k2 r2 ev, ez, z, rfl, h2 w2 (Le.refl _) k2⟩
theorem t_chain {o p : CmpO} {a b c : Ex} {e f g : Expr} {pos : Pos} (s : SC X CX G C E k Γ) (ha : PE X e (tE G E C a)) (hb : PE X f (tE G E C b)) (hc : PE X g (tE G E C c)) (hm : lastMarks [opC o, opC p] [f, g] = false) :
    PT X (.Compare e [opC o, opC p] [f, g] pos) (tT G E C (.chain o p a b c)) := by
  refine PT.imp (pt_chain (cmp_ok (G := G) (by have := s.hu; omega) o) (cmp_ok (G := G) (by have := s.hu; omega) p) ha hb hc hm) fun σ H Q ⟨w, S, env, b0, hw, kk, r, h⟩ => ?_
  subst hw
  unfold tstE at h
  simp only [evE, bnd_assoc, opt_bnd] at h
  refine tE_bndP (P := fun w => Gob G w Q) (fun _ _ _ _ l q => Gob.le l q) kk r h fun x b1 w1 v1 l1 k1 r1 re1 h1 => ?_
  refine tE_bndP (P := fun w => Gob G w Q) (fun _ _ _ _ l q => Gob.le l q) k1 re1 h1 fun y b2 w2 v2 l2 k2 r2 re2 h2 => ?_
  obtain ⟨u, eu, h2⟩ := wpb_opt.mp h2
  obtain ⟨v, ev, h2⟩ := wpb_opt.mp h2
  obtain ⟨z, ez, h2⟩ := wpb_opt.mp h2
  refine ⟨w2, y.2, b2, u, v, z, rfl, k2, rdR k2 (l2.rep r1) eu, rdR k2 r2 ev, ez, z, rfl, ?_⟩
  cases z with
  | false =>
    rw [if_neg Bool.false_ne_true] at h2 ⊢
    exact ⟨false, rfl, h2 w2 (Le.refl _) k2⟩
  | true =>
    rw [if_pos rfl] at h2 ⊢
    simp only [bnd_assoc, opt_bnd, bnd_ret] at h2
    refine tE_bndP (P := fun w => Gob G w Q) (fun _ _ _ _ l q => Gob.le l q) k2 re2 h2 fun q b3 w3 v3 l3 k3 r3 re3 h3 => ?_
    obtain ⟨u', eu', h3⟩ := wpb_opt.mp h3
    obtain ⟨v', ev', h3⟩ := wpb_opt.mp h3
    obtain ⟨z', ez', h3⟩ := wpb_opt.mp h3
    exact ⟨w3, q.2, b3, u', v', z', rfl, k3, rdR k3 (l3.rep r2) eu', rdR k3 r3 ev', ez', z', rfl, h3 w3 (Le.refl _) k3⟩
end
end RL
end

section
set_option Elab.async false
set_option linter.all false
set_option maxHeartbeats 4000000
/-! RL12: expressions, further. Own work. -/
namespace RL
open PySem PySem.Spec PyProof.Rows L2

theorem mapO_length {α β : Type} {f : α → Option β} : ∀ {as : List α} {bs : List β}, mapO f as = some bs → bs.length = as.length
  | [], bs, e => by
    have e' : ([] : List β) = bs := Option.some.inj e
    rw [← e']
    rfl
  | a :: as, bs, e => by
    unfold mapO at e
    cases h1 : f a with
    | none => rw [h1] at e; cases e
    | some b =>
      cases h2 : mapO f as with
      | none => rw [h1, h2] at e; cases e
      | some cs =>
        rw [h1, h2] at e
        have e' : b :: cs = bs := Option.some.inj e
        rw [← e', List.length_cons, List.length_cons, mapO_length h2]
theorem RepWs.length {G : Gam} {w : Wd} : ∀ {ws : List W} {xs : List V}, RepWs G w ws xs → xs.length = ws.length
  | [], _, h => by
    have h : _ = [] := h
    rw [h]
    rfl
  | x :: ws, _, ⟨v, vs, e, _, h⟩ => by rw [e, List.length_cons, List.length_cons, RepWs.length h]
/-- values in another order -/
theorem perm_rep {G : Gam} {p : Option Addr} {B : Hp} {ds : List D} {xs : List V} (r : RepL G p B ds xs) {us : List Value} (rv : Vals xs us) : ∀ {perm : List Nat} {es : List D}, mapO (fun j => ds[j]?) perm = some es →
    ∃ ys, RepL G p B es ys ∧ Vals ys (permV perm us) ∧ ys.length = perm.length
  | [], es, e => by
    have e' : ([] : List D) = es := Option.some.inj e
    subst e'
    exact ⟨[], by simp only [RepL], .nil, rfl⟩
  | j :: perm, es, e => by
    unfold mapO at e
    cases h1 : ds[j]? with
    | none => rw [h1] at e; cases e
    | some d =>
      cases h2 : mapO (fun j => ds[j]?) perm with
      | none => rw [h1, h2] at e; cases e
      | some cs =>
        rw [h1, h2] at e
        have e' : d :: cs = es := Option.some.inj e
        subst e'
        obtain ⟨v, ev, r1⟩ := r.get h1
        obtain ⟨u, eu, r2⟩ := rv.get ev
        obtain ⟨ys, q1, q2, q3⟩ := perm_rep r rv h2
        refine ⟨v :: ys, ⟨v, ys, rfl, r1, q1⟩, ?_, by rw [List.length_cons, List.length_cons, q3]⟩
        unfold permV
        rw [List.filterMap_cons, eu]
        exact .cons r2 q2

/-- all that it may end with -/
def M.alw {α : Type} : M α → (α → Prop) → Prop
  | .ret a, P => P a
  | .exc _ _, _ => True
  | .stuck, _ => True
  | .draw n k, P => ∀ v, (k v).alw P
theorem M.alw_all {α : Type} {P : α → Prop} (h : ∀ a, P a) : ∀ m : M α, m.alw P
  | .ret a => h a
  | .exc _ _ => True.intro
  | .stuck => True.intro
  | .draw n k => fun v => (k v).alw_all h
theorem M.alw_bnd {α β : Type} {P : β → Prop} : ∀ (m : M α) {k : α → M β}, m.alw (fun a => (k a).alw P) → (m.bnd k).alw P
  | .ret a, _, h => h
  | .exc _ _, _, _ => True.intro
  | .stuck, _, _ => True.intro
  | .draw n g, k, h => fun v => (g v).alw_bnd (h v)
theorem M.wpb_and {α : Type} {P : α → Prop} : ∀ (m : M α) {b : Nat} {Q : α → Nat → Prop} {E : Nat → List D → Nat → Prop}, m.wpb b Q E → m.alw P → m.wpb b (fun a b' => Q a b' ∧ P a) E
  | .ret a, _, _, _, h, p => ⟨h, p⟩
  | .exc _ _, _, _, _, h, _ => h
  | .stuck, _, _, _, h, _ => h
  | .draw n k, _, _, _, ⟨h1, b', e, h⟩, p => ⟨h1, b', e, fun v h0 h2 => (k v).wpb_and (h v h0 h2) (p v)⟩
theorem M.alw_mono {α : Type} {m : M α} {P P' : α → Prop} (f : ∀ a, P a → P' a) (h : m.alw P) : m.alw P' := by
  induction m with
  | ret a => exact f a h
  | exc _ _ => exact True.intro
  | stuck => exact True.intro
  | draw n k ih => exact fun v => ih v (h v)
theorem evL_len {C : Calls} (as : Ex) {Γ : Nm} {es : List Expr} {env : EnvD} {S : Sto} (h : chL as Γ es = true) : (evL C as env S).alw (fun r => r.1.length = es.length) := by
  induction as generalizing es S with
  | nil =>
    cases es with
    | nil => simp only [evL]; rfl
    | cons e es => simp only [chL] at h; cases h
  | cons a as _ ih =>
    cases es with
    | nil => simp only [chL] at h; cases h
    | cons e es =>
      simp only [chL, Bool.and_eq_true] at h
      simp only [evL]
      refine M.alw_bnd _ (M.alw_all (fun x => ?_) _)
      refine M.alw_bnd _ ?_
      exact M.alw_mono (fun y hy => by show (x.1 :: y.1).length = _; rw [List.length_cons, List.length_cons, hy]) (ih (S := x.2) h.2)
  | _ => simp only [chL] at h; cases h
section
variable {X : Cx} {CX : CXT} {G : Gam} {C : Calls} {E : XK} {k : Nat} {Γ : Nm}
theorem tA_bndL {α : Type} {P : Wd → α → Nat → Prop} (hP : ∀ w w1 a b, Le w w1 → P w a b → P w1 a b) {a : Ex} {es : List Expr} (hc : chL a Γ es = true) {σ : L2.St} {env : EnvD} {w : Wd} {S : Sto} {b : Nat} {kk : List W × Sto → M α} {R : List V → Hp → Prop} (k : Ok G w S b) (r : RepE G w env σ) (h : ((evL C a env S).bnd kk).wpb b (P w) (EX G E w))
    (go : ∀ x b1 w1 v1, Le w w1 → Ok G w1 x.2 b1 → RepWs G w1 x.1 v1 → RepE G w1 env σ → x.1.length = es.length → (kk x).wpb b1 (P w1) (EX G E w1) → R v1 w1.H) : tA G E C a σ w.H R := by
  refine ⟨w, S, env, b, rfl, k, r, ?_⟩
  rw [M.wpb_bnd] at h
  refine (evL C a env S).wpb_mono ((evL C a env S).wpb_and h (evL_len a hc)) (fun x b1 h1 => ?_) fun _ _ _ q => q
  intro w1 v1 l1 k1 r1
  exact go x b1 w1 v1 l1 k1 r1 (r.le l1) h1.2 (wle (Q1 := P) l1 (fun _ _ q => hP _ _ _ _ l1 q) h1.1)
theorem c_nil : PA X [] (tA G E C .nil) := by
  refine PA.imp pa_nil fun σ H Q ⟨w, S, env, b, hw, kk, r, h⟩ => ?_
  subst hw
  simp only [evL] at h
  exact h w [] (Le.refl w) kk rfl
theorem c_cons {a as : Ex} {e : Expr} {es : List Expr} (ha : PE X e (tE G E C a)) (hr : PA X es (tA G E C as)) (hs : notStar e = true) : PA X (e :: es) (tA G E C (.cons a as)) := by
  refine PA.imp (pa_cons ha hr (starOf hs)) fun σ H Q ⟨w, S, env, b, hw, kk, r, h⟩ => ?_
  subst hw
  simp only [evL] at h
  refine tE_bndP (P := fun w => Gos G w Q) (fun _ _ _ _ l q => Gos.le l q) kk r h fun x b1 w1 v1 l1 k1 r1 re1 h1 => ?_
  refine tA_bndP (P := fun w => Gos G w Q) (fun _ _ _ _ l q => Gos.le l q) k1 re1 h1 fun y b2 w2 vs l2 k2 r2 re2 h2 => ?_
  exact h2 w2 (v1 :: vs) (Le.refl _) k2 ⟨v1, vs, rfl, l2.rep r1, r2⟩
theorem ck_nil : PK X [] (tA G E C .nil) := by
  refine ⟨fun pos pins s σ H Q I ⟨w, S, env, b, hw, kk, r, h⟩ => ?_⟩
  subst hw
  simp only [evL] at h
  exact pk_nil.run pos pins s σ _ Q I (h w [] (Le.refl w) kk rfl)
theorem ck_cons {a as : Ex} {e : Expr} {nm : Option Str} {kp : Pos} {kws : List Keyword} (ha : PE X e (tE G E C a)) (hr : PK X kws (tA G E C as)) : PK X (⟨nm, e, kp⟩ :: kws) (tA G E C (.cons a as)) := by
  refine ⟨fun pos pins s σ H Q I ⟨w, S, env, b, hw, kk, r, h⟩ => ?_⟩
  subst hw
  simp only [evL] at h
  refine (pk_cons ha hr).run pos pins s σ _ Q I ?_
  refine tE_bndP (P := fun w => Gos G w Q) (fun _ _ _ _ l q => Gos.le l q) kk r h fun x b1 w1 v1 l1 k1 r1 re1 h1 => ?_
  refine tA_bndP (P := fun w => Gos G w Q) (fun _ _ _ _ l q => Gos.le l q) k1 re1 h1 fun y b2 w2 vs l2 k2 r2 re2 h2 => ?_
  exact h2 w2 (v1 :: vs) (Le.refl _) k2 ⟨v1, vs, rfl, l2.rep r1, r2⟩
theorem RepWs.ofL {w : Wd} : ∀ {ds : List D} {xs : List V}, RepL G w.p w.B ds xs → RepWs G w (ds.map W.d) xs
  | [], xs, h => by
    have h' : xs = [] := by simpa only [RepL] using h
    exact h'
  | d :: ds, xs, h => by
    simp only [RepL] at h
    obtain ⟨v, vs, rfl, h1, h2⟩ := h
    exact ⟨v, vs, rfl, h1, RepWs.ofL h2⟩
/-- what a callee gets and gives -/
theorem callee_ok {f ar : Nat} {w : Wd} {S : Sto} {b : Nat} {ds : List D} {vs : List V} {Q : VK} (kw : Ok G w S b) (hl : ds.length = ar) (r : RepL G w.p w.B ds vs) (h : ((dcall C f ds).bnd fun z => (.ret (.d z, S) : M (W × Sto))).wpb b (Go G w Q) (EX G E w)) : spC G C f ar vs w.H Q E := by
  refine ⟨w.own, [], b, ds.map W.d, rfl, ok_own kw, by rw [List.length_map]; exact hl, RepWs.ofL (w := w.own) r, ?_⟩
  unfold dcall at h
  rw [bnd_assoc, M.wpb_bnd] at h
  refine (C f (ds.map W.d) []).wpb_mono h (fun z b' h1 => ?_) fun c es b' h1 => ?_
  · rw [opt_bnd] at h1
    obtain ⟨d, ed, h1⟩ := wpb_opt.mp h1
    intro w' v l' k' r'
    have r2 := dat_ok r' ed
    exact h1 (w.back w') v (le_back kw l') (ok_back kw l' k') r2
  · intro w' cv dd l x
    exact h1 (w.back w') cv dd (le_back kw l) x
theorem c_call {f : Nat} {as : Ex} {x : Str} {es : List Expr} {p pos : Pos} (s : SC X CX G C E k Γ) (hg : glB Γ.sc x = true) (ho : okName x = true) (hf : (x, f, es.length) ∈ Γ.fns) (hc : chL as Γ es = true) (ha : PA X es (tA G E C as)) : PE X (.Call (.Name x p) es [] pos) (tE G E C (.call f as)) := by
  obtain ⟨fd, ps, hm, hk, F, hb, _, hlen⟩ := s.lk.fn x f _ hf
  have hst := chL_stars hc
  refine ⟨fun pins st σ H Q I ⟨w, S, env, b0, hw, kw, r, h⟩ => ?_⟩
  subst hw
  simp only [evE] at h
  refine wpAny_Call_Name_kw (ld_glob I (s.gl hg) hm ?_ (okName_ok ho).1)
  have fin : tA G E C as σ w.H (fun vs H1 => spC G C f es.length vs H1 Q E) := by
    refine tA_bndP (P := fun w => Go G w Q) (fun _ _ _ _ l q => Go.le l q) kw r h fun x b1 w1 vs l1 k1 r1 re1 h1 => ?_
    obtain ⟨ds, eds, h1⟩ := wpb_opt.mp h1
    have hl : ds.length = es.length := by
      have h2 := h1
      unfold dcall at h2
      rw [M.wpb_bnd, M.wpb_bnd] at h2
      rw [← List.length_map (f := W.d)]
      exact hlen _ _ _ _ _ h2
    exact callee_ok k1 hl (RepWs.dat eds r1) h1
  have run : ∀ {us : List Value} {s1 : Shared} {vs : List V} {H1 : Hp}, Inv X pins σ H1 s1 → Vals vs us → spC G C f es.length vs H1 Q E → wpAny (model X.prog X.w) X.A (call (.ref (G.fnA f)) us) (EP X pins σ Q) X.xe s1 := fun {us s1 vs H1} I1 rv q => by
    have hl : us.length = es.length := by
      obtain ⟨w', S', b', ds', _, _, e1, e2, _⟩ := q
      rw [← rv.length, e2.length, e1]
    exact run_fnG F s.room s.gd (hb s1 us I1.kIn hl) s.pas I1 rv q
  cases es with
  | nil =>
    have hA := ha.run pos pins st σ w.H _ I fin
    exact PySem.W.callWith_K0 I.kIn hk (by
      have z : as = .nil := by
        cases as <;> first | rfl | (simp only [chL] at hc; cases hc)
      subst z
      obtain ⟨w', S', env', b', e1, k', r', h'⟩ := fin
      simp only [evL] at h'
      have q := h' w' [] (Le.refl w') k' rfl
      rw [e1] at q
      exact run (us := []) I .nil q)
  | cons e es =>
    rw [List.all_cons, Bool.and_eq_true] at hst
    exact PySem.W.callWith_K (h₀ := X.base) I.ok.mod.kin hk (thn (ha.run pos pins st σ w.H _ I fin) fun us s1 ⟨vs, H1, I1, rv, q⟩ => ⟨I1.kIn, run I1 rv q⟩) (starOf hst.1) (noStars hst.2)
theorem c_calls {f : Nat} {as : Ex} {x : Str} {es : List Expr} {p pos : Pos} (s : SC X CX G C E k Γ) (hg : glB Γ.sc x = true) (ho : okName x = true) (hf : (x, f, es.length) ∈ Γ.fns) (hc : chL as Γ es = true) (ha : PA X es (tA G E C as)) : PE X (.Call (.Name x p) es [] pos) (tE G E C (.calls f as)) := by
  obtain ⟨fd, ps, hm, hk, F, hb, _, hlen⟩ := s.lk.fn x f _ hf
  have hst := chL_stars hc
  refine ⟨fun pins st σ H Q I ⟨w, S, env, b0, hw, kw, r, h⟩ => ?_⟩
  subst hw
  simp only [evE] at h
  refine wpAny_Call_Name_kw (ld_glob I (s.gl hg) hm ?_ (okName_ok ho).1)
  have fin : tA G E C as σ w.H (fun vs H1 => spC G C f es.length vs H1 Q E) := by
    refine tA_bndP (P := fun w => Go G w Q) (fun _ _ _ _ l q => Go.le l q) kw r h fun x b1 w1 vs l1 k1 r1 re1 h1 => ?_
    exact ⟨w1, x.2, b1, x.1, rfl, k1, hlen _ _ _ _ _ h1, r1, h1⟩
  have run : ∀ {us : List Value} {s1 : Shared} {vs : List V} {H1 : Hp}, Inv X pins σ H1 s1 → Vals vs us → spC G C f es.length vs H1 Q E → wpAny (model X.prog X.w) X.A (call (.ref (G.fnA f)) us) (EP X pins σ Q) X.xe s1 := fun {us s1 vs H1} I1 rv q => by
    have hl : us.length = es.length := by
      obtain ⟨w', S', b', ds', _, _, e1, e2, _⟩ := q
      rw [← rv.length, e2.length, e1]
    exact run_fnG F s.room s.gd (hb s1 us I1.kIn hl) s.pas I1 rv q
  cases es with
  | nil =>
    have hA := ha.run pos pins st σ w.H _ I fin
    exact PySem.W.callWith_K0 I.kIn hk (by
      have z : as = .nil := by
        cases as <;> first | rfl | (simp only [chL] at hc; cases hc)
      subst z
      obtain ⟨w', S', env', b', e1, k', r', h'⟩ := fin
      simp only [evL] at h'
      have q := h' w' [] (Le.refl w') k' rfl
      rw [e1] at q
      exact run (us := []) I .nil q)
  | cons e es =>
    rw [List.all_cons, Bool.and_eq_true] at hst
    exact PySem.W.callWith_K (h₀ := X.base) I.ok.mod.kin hk (thn (ha.run pos pins st σ w.H _ I fin) fun us s1 ⟨vs, H1, I1, rv, q⟩ => ⟨I1.kIn, run I1 rv q⟩) (starOf hst.1) (noStars hst.2)
theorem kw_names {env : Env} {pos : Pos} : ∀ {kws : List Keyword}, (backToKw pos (keywordEach kws env)).filterMap (·.1) = kws.filterMap (·.arg)
  | [] => rfl
  | ⟨nm, e, kp⟩ :: kws => by
    show ((nm, _) :: backToKw pos (keywordEach kws env)).filterMap (·.1) = _
    rw [List.filterMap_cons, List.filterMap_cons, kw_names]
theorem kw_all {env : Env} {pos : Pos} : ∀ {kws : List Keyword}, kws.all (·.arg.isSome) = true → (backToKw pos (keywordEach kws env)).all (·.1.isSome) = true
  | [], _ => rfl
  | ⟨nm, e, kp⟩ :: kws, h => by
    rw [List.all_cons, Bool.and_eq_true] at h
    show (nm.isSome && (backToKw pos (keywordEach kws env)).all (·.1.isSome)) = true
    rw [kw_all h.2, Bool.and_true]
    exact h.1
theorem kw_any {env : Env} {pos : Pos} : ∀ {kws : List Keyword}, kws.all (·.arg.isSome) = true → (backToKw pos (keywordEach kws env)).any (·.1.isNone) = false
  | [], _ => rfl
  | ⟨nm, e, kp⟩ :: kws, h => by
    rw [List.all_cons, Bool.and_eq_true] at h
    show (nm.isNone || (backToKw pos (keywordEach kws env)).any (·.1.isNone)) = false
    rw [kw_any h.2, Bool.or_false]
    have h1 : nm.isSome = true := h.1
    cases nm with
    | none => cases h1
    | some _ => rfl
theorem kw_len : ∀ {kws : List Keyword}, kws.all (·.arg.isSome) = true → (kws.filterMap (·.arg)).length = kws.length
  | [], _ => rfl
  | ⟨nm, e, kp⟩ :: kws, h => by
    rw [List.all_cons, Bool.and_eq_true] at h
    have h1 : nm.isSome = true := h.1
    cases nm with
    | none => cases h1
    | some n =>
      rw [List.filterMap_cons]
      show (n :: kws.filterMap (·.arg)).length = _
      rw [List.length_cons, List.length_cons, kw_len h.2]
theorem c_callk {f : Nat} {perm : List Nat} {as ks : Ex} {x : Str} {es : List Expr} {kws : List Keyword} {p pos : Pos} (s : SC X CX G C E k Γ) (hg : glB Γ.sc x = true) (ho : okName x = true) (hf : Γ.fns.any (fun q => decide (q.1 = x ∧ q.2.1 = f ∧ q.2.2 = es.length + kws.length)) = true)
    (hkb : (f, es.length, kws.filterMap (·.arg), perm) ∈ Γ.kbs) (hks : kws.all (·.arg.isSome) = true) (hc : chL as Γ es = true) (ha : PA X es (tA G E C as)) (hk' : PK X kws (tA G E C ks)) (hcl : chL ks Γ (kws.map (·.value)) = true) : PE X (.Call (.Name x p) es kws pos) (tE G E C (.callk f perm as ks)) := by
  have hf' : (x, f, es.length + kws.length) ∈ Γ.fns := by
    rw [List.any_eq_true] at hf
    obtain ⟨⟨x', f', ar⟩, hm, e⟩ := hf
    rw [decide_eq_true_eq] at e
    obtain ⟨e1, e2, e3⟩ := e
    simp only at e1 e2 e3
    subst e1 e2 e3
    exact hm
  obtain ⟨fd, ps, hm, hk, F, _, hb, hlen⟩ := s.lk.fn x f _ hf'
  have hst := chL_stars hc
  refine ⟨fun pins st σ H Q I ⟨w, S, env, b0, hw, kw, r, h⟩ => ?_⟩
  subst hw
  simp only [evE] at h
  refine wpAny_Call_Name_kw (ld_glob I (s.gl hg) hm ?_ (okName_ok ho).1)
  let R : List V → List V → Hp → Prop := fun vs zs H1 => ∃ (ds es' fs : List D) (w1 : Wd) (S1 : Sto) (b1 : Nat), w1.H = H1 ∧ Ok G w1 S1 b1 ∧ vs.length = es.length ∧ zs.length = kws.length ∧ RepL G w1.p w1.B ds vs ∧ RepL G w1.p w1.B es' zs ∧ permD perm (ds ++ es') = some fs ∧ fs.length = es.length + kws.length ∧
    ((dcall C f fs).bnd fun z => (.ret (.d z, S1) : M (W × Sto))).wpb b1 (Go G w1 Q) (EX G E w1)
  have fin : tA G E C as σ w.H (fun vs H1 => tA G E C ks σ H1 fun zs H2 => R vs zs H2) := by
    refine tA_bndL (P := fun w => Go G w Q) (fun _ _ _ _ l q => Go.le l q) hc kw r h fun x b1 w1 vs l1 k1 r1 re1 z1 h1 => ?_
    refine tA_bndL (P := fun w => Go G w Q) (fun _ _ _ _ l q => Go.le l q) hcl k1 re1 h1 fun y b2 w2 zs l2 k2 r2 re2 z2 h2 => ?_
    obtain ⟨ds, eds, h2⟩ := wpb_opt.mp h2
    obtain ⟨es', ees, h2⟩ := wpb_opt.mp h2
    obtain ⟨fs, efs, h2⟩ := wpb_opt.mp h2
    refine ⟨ds, es', fs, w2, y.2, b2, rfl, k2, by rw [r1.length, z1], by rw [r2.length, z2, List.length_map], l2.repL (RepWs.dat eds r1), RepWs.dat ees r2, efs, ?_, h2⟩
    unfold dcall at h2
    rw [M.wpb_bnd, M.wpb_bnd] at h2
    rw [← List.length_map (f := W.d)]
    exact hlen _ _ _ _ _ h2
  have run : ∀ {us ws : List Value} {s1 : Shared} {vs zs : List V} {H1 : Hp}, Inv X pins σ H1 s1 → Vals vs us → Vals zs ws → R vs zs H1 →
      wpAny (model X.prog X.w) X.A (call (.ref (G.fnA f)) us ((kws.filterMap (·.arg)).zip ws)) (EP X pins σ Q) X.xe s1 := fun {us ws s1 vs zs H1} I1 rv rz q => by
    obtain ⟨ds, es', fs, w1, S1, b1, e1, k1, l1, l2, q1, q2, q3, q4, q5⟩ := q
    subst e1
    unfold permD at q3
    split at q3
    · rename_i hpl
      obtain ⟨ys, y1, y2, y3⟩ := perm_rep (q1.app q2) (rv.append rz) q3
      refine run_fnG F s.room s.gd (hb _ _ _ hkb s1 us ws I1.kIn ?_ ?_ ?_) s.pas I1 y2 (callee_ok k1 q4 y1 q5)
      · rw [← rv.length, l1]
      · rw [← rz.length, l2, kw_len hks]
      · rw [← rv.length, ← rz.length, l1, l2]
    · cases q3
  cases es with
  | nil =>
    have z : as = .nil := by
      cases as <;> first | rfl | (simp only [chL] at hc; cases hc)
    subst z
    obtain ⟨w', S', env', b', e1, k', r', h'⟩ := fin
    simp only [evL] at h'
    have q := h' w' [] (Le.refl w') k' rfl
    rw [e1] at q
    refine PySem.W.callWith_KW0 (h₀ := X.base) I.ok.mod.kin hk (kw_all hks) ?_ (by rw [kw_any hks]; rfl)
    refine thn (hk'.run pos pins st σ w.H _ I q) fun ws s2 ⟨zs, H2, I2, rz, q2⟩ => ⟨I2.kIn, ?_⟩
    rw [kw_names]
    exact run (us := []) I2 .nil rz q2
  | cons e es =>
    rw [List.all_cons, Bool.and_eq_true] at hst
    refine PySem.W.callWith_KW (h₀ := X.base) I.ok.mod.kin hk (kw_all hks) (thn (ha.run pos pins st σ w.H _ I fin) fun us s1 ⟨vs, H1, I1, rv, q⟩ => ?_) (by rw [kw_any hks, noStars (by rw [List.all_cons, hst.1, hst.2]; rfl)]; rfl) (starOf hst.1)
    refine thn (hk'.run pos pins s1 σ H1 _ I1 q) fun ws s2 ⟨zs, H2, I2, rz, q2⟩ => ⟨I2.kIn, ?_⟩
    rw [kw_names]
    exact run I2 rv rz q2
end
end RL
end

section
set_option Elab.async false
set_option linter.all false
set_option maxHeartbeats 4000000
/-! RL13: expressions, further still. Own work. -/
namespace RL
open PySem PySem.Spec PyProof.Rows L2

theorem RepL.rev {G : Gam} {p : Option Addr} {B : Hp} : ∀ {ds : List D} {xs : List V}, RepL G p B ds xs → RepL G p B ds.reverse xs.reverse
  | [], xs, h => by
    have h' : xs = [] := by simpa only [RepL] using h
    subst h'
    exact h
  | d :: ds, xs, h => by
    simp only [RepL] at h
    obtain ⟨v, vs, rfl, h1, h2⟩ := h
    rw [List.reverse_cons, List.reverse_cons]
    exact (RepL.rev h2).app (ds := ds.reverse) (es := [d]) ⟨v, [], rfl, h1, rfl⟩
section
variable {X : Cx} {CX : CXT} {G : Gam} {C : Calls} {E : XK} {k : Nat} {Γ : Nm}
theorem boot_bi (b : Bi) : bootBuiltins (biN b) = some (biV b) := by cases b <;> decide +kernel
theorem c_bi {b : Bi} {as : Ex} {e : Expr} {es : List Expr} {p pos : Pos} (s : SC X CX G C E k Γ) (hb : bltB Γ (biN b) = true) (hc : chL as Γ (e :: es) = true) (ha : PA X (e :: es) (tA G E C as)) : PE X (.Call (.Name (biN b) p) (e :: es) [] pos) (tE G E C (.bi b as)) := by
  obtain ⟨h1, h2, h3, h4⟩ := s.blt hb
  have hst := chL_stars hc
  rw [List.all_cons, Bool.and_eq_true] at hst
  have key : PE X (.Call (.Name (biN b) p) (e :: es) [] pos) (tCB (rBi G b) (tA G E C as)) := by
    have cr := biB_ok (X := X) (G := G) s.calm s.gd s.hu b
    have bo := boot_bi b
    cases b <;> first
      | exact pe_callB cr h1 h2 bo ha h4 h3 (starOf hst.1) (noStars hst.2)
      | exact pe_callTy cr h1 h2 bo ha h4 h3 (starOf hst.1) (noStars hst.2)
  refine PE.imp key fun σ H Q ⟨w, S, env, b0, hw, kw, r, h⟩ => ?_
  subst hw
  simp only [evE] at h
  refine tA_bndP (P := fun w => Go G w Q) (fun _ _ _ _ l q => Go.le l q) kw r h fun x b1 w1 vs l1 k1 r1 re1 h1 => ?_
  obtain ⟨ds, eds, h1⟩ := wpb_opt.mp h1
  obtain ⟨z, ez, h1⟩ := wpb_opt.mp h1
  exact ⟨w1, x.2, b1, ds, z, rfl, k1, rdRs k1 eds r1, ez, Go.nx h1⟩
theorem c_rev {a : Ex} {e : Expr} {n : Nat} {p1 p2 p3 pos : Pos} (ha : PE X e (tE G E C a)) : PE X (.Subscript e (.Slice none none (some (.UnaryOp .USub (.Constant (.int 1) n p1) p2)) p3) pos) (tE G E C (.rev a)) := by
  refine PE.imp (pe_revL ha) fun σ H Q ⟨w, S, env, b0, hw, kw, r, h⟩ => ?_
  subst hw
  simp only [evE] at h
  refine tE_bnd kw r h fun x b1 w1 v1 l1 k1 r1 re1 h1 => ?_
  obtain ⟨u, eu, h1⟩ := wpb_opt.mp h1
  obtain ⟨z, ez, h1⟩ := wpb_opt.mp h1
  cases u <;> try (cases ez; done)
  rename_i ds
  have ez' : D.lst ds.reverse = z := Option.some.inj ez
  subst ez'
  obtain ⟨q, xs, rfl, g1, g2⟩ := (rdR k1 r1 eu).lst k1
  refine ⟨q, xs, rfl, SqL.of g1, fun p hp => ?_⟩
  exact Nx.lst k1 (Go.nx h1) (RepL.rev g2) hp
theorem c_opM (o : BinO) {a b : Ex} {σ : L2.St} {H : Hp} {Q : VK} {w : Wd} {S : Sto} {env : EnvD} {b0 : Nat} (hw : w.H = H) (kk : Ok G w S b0) (r : RepE G w env σ)
    (h : ((evE C a env S).bnd fun x => (evE C b env x.2).bnd fun y => M.opt (rdW x.1 y.2) fun u => M.opt (rdW y.1 y.2) fun v => M.opt (binD o u v) fun z => newW z y.2).wpb b0 (Go G w Q) (EX G E w)) :
    tOp (rD2M G (binD o)) (tE G E C a) (tE G E C b) σ H Q := by
  subst hw
  refine tE_bnd kk r h fun x b1 w1 v1 l1 k1 r1 re1 h1 => ?_
  refine tE_bnd k1 re1 h1 fun y b2 w2 v2 l2 k2 r2 re2 h2 => ?_
  obtain ⟨u, eu, h2⟩ := wpb_opt.mp h2
  obtain ⟨v, ev, h2⟩ := wpb_opt.mp h2
  obtain ⟨z, ez, h2⟩ := wpb_opt.mp h2
  cases z with
  | lst z => exact ⟨w2, y.2, b2, u, v, z, rfl, k2, rdR k2 (l2.rep r1) eu, rdR k2 r2 ev, ez, h2⟩
  | _ => exact h2.elim
theorem c_catM {a b : Ex} {e f : Expr} {pos : Pos} (ha : PE X e (tE G E C a)) (hb : PE X f (tE G E C b)) : PE X (.BinOp e .Add f pos) (tE G E C (.catM a b)) := by
  refine PE.imp (pe_op (catM_ok (G := G)) ha hb) fun σ H Q ⟨w, S, env, b0, hw, kk, r, h⟩ => ?_
  simp only [evE] at h
  exact c_opM .add hw kk r h
theorem c_repM {a b : Ex} {e f : Expr} {pos : Pos} (ha : PE X e (tE G E C a)) (hb : PE X f (tE G E C b)) : PE X (.BinOp e .Mult f pos) (tE G E C (.repM a b)) := by
  refine PE.imp (pe_op (repM_ok (G := G)) ha hb) fun σ H Q ⟨w, S, env, b0, hw, kk, r, h⟩ => ?_
  simp only [evE] at h
  exact c_opM .mul hw kk r h
theorem boot_ty (t : Ty) : bootBuiltins (tyS t) = some (.type (tyN t)) := by cases t <;> decide +kernel
theorem c_ty {t : Ty} {e : Expr} (s : SC X CX G C E k Γ) (h : tyB Γ t e = true) : PE X e (tC (.ty (tyN t))) := by
  cases e <;> simp only [tyB] at h <;> try (cases h; done)
  rename_i x pos
  rw [Bool.and_eq_true, decide_eq_true_eq] at h
  obtain ⟨h0, h⟩ := h
  subst h0
  obtain ⟨h1, h2, h3, h4⟩ := s.blt h
  exact pe_bltn h1 h2 (boot_ty t) rfl h4 h3
/-- a row of classes -/
def tCs : List V → TA := fun vs _ H Q => Q vs H
theorem tyB_star {t : Ty} {e : Expr} (h : tyB Γ t e = true) : notStar e = true := by
  cases e <;> simp only [tyB] at h <;> first | (cases h; done) | rfl
theorem c_tys (s : SC X CX G C E k Γ) : ∀ {ts : List Ty} {es : List Expr}, tysB Γ ts es = true → PA X es (tCs (ts.map fun t => V.ty (tyN t)))
  | [], [], _ => PA.imp pa_nil fun σ H Q h => h
  | t :: ts, e :: es, h => by
    simp only [tysB, Bool.and_eq_true] at h
    exact PA.imp (pa_cons (c_ty s h.1) (c_tys s h.2) (starOf (tyB_star h.1))) fun σ H Q h => h
  | [], _ :: _, h => by simp only [tysB] at h; cases h
  | _ :: _, [], h => by simp only [tysB] at h; cases h
theorem kits_ok {p : Option Addr} {H : Hp} {d : D} {v : V} (r : RepV G p H d v) : ∀ {ts : List Ty} {ks : List Bool} {T : String}, (∀ t b, tyD t d = some b → kitB T (tyN t) = some b) → mapO (tyD · d) ts = some ks → PySem.W.kitAny X.K (.type T) (ts.map fun t => Value.type (tyN t)) = some (ks.any id)
  | [], ks, T, _, e => by
    have e' : ([] : List Bool) = ks := Option.some.inj e
    subst e'
    rfl
  | t :: ts, ks, T, f, e => by
    unfold mapO at e
    cases h1 : tyD t d with
    | none => rw [h1] at e; cases e
    | some b =>
      cases h2 : mapO (tyD · d) ts with
      | none => rw [h1, h2] at e; cases e
      | some cs =>
        rw [h1, h2] at e
        have e' : b :: cs = ks := Option.some.inj e
        subst e'
        refine kitAny_cons (kit_ty (f t b h1)) (fun hb => ?_) (fun hb => ?_)
        · subst hb
          have q : PySem.W.kitAny X.K (.type T) (ts.map fun t => Value.type (tyN t)) = some (cs.any id) := kits_ok r f h2
          exact q
        · subst hb
          rfl
/-- one class serves all questions -/
theorem ty_one {p : Option Addr} {H : Hp} {d : D} {v : V} (r : RepV G p H d v) (h : ∃ t b, tyD t d = some b) : ∃ T, TyX X.K H v (.type T) ∧ ∀ t b, tyD t d = some b → kitB T (tyN t) = some b := by
  cases d with
  | non => rw [rep_non r]; exact ⟨_, .base .non, fun t b e => by cases t <;> cases e <;> decide +kernel⟩
  | bl c => rw [rep_bl r]; exact ⟨_, .base (.bl c), fun t b e => by cases t <;> cases e <;> decide +kernel⟩
  | int i => rw [rep_int r]; exact ⟨_, .base (.int i), fun t b e => by cases t <;> cases e <;> decide +kernel⟩
  | str cs => rw [rep_str r]; exact ⟨_, .base (.str _), fun t b e => by cases t <;> cases e <;> decide +kernel⟩
  | lst ds => obtain ⟨a, xs, rfl, h, _⟩ := rep_lst r; exact ⟨_, .base (.lst h), fun t b e => by cases t <;> cases e <;> decide +kernel⟩
  | tup ds => obtain ⟨a, xs, rfl, h, _⟩ := rep_tup r; exact ⟨_, .base (.tup h), fun t b e => by cases t <;> cases e <;> decide +kernel⟩
  | dct ks vs => obtain ⟨a, xs, rfl, h, _⟩ := rep_dct r; exact ⟨_, .base (.dK h), fun t b e => by cases t <;> cases e <;> decide +kernel⟩
  | ins c ds => obtain ⟨t, b, e⟩ := h; cases t <;> cases e
  | fn i => obtain ⟨t, b, e⟩ := h; cases t <;> cases e
  | pen => obtain ⟨t, b, e⟩ := h; cases t <;> cases e
theorem c_isi1 {a : Ex} {t : Ty} {e f : Expr} {p pos : Pos} (s : SC X CX G C E k Γ) (hb : bltB Γ "isinstance" = true) (ha : PE X e (tE G E C a)) (hs : notStar e = true) (ht : tyB Γ t f = true) : PE X (.Call (.Name "isinstance" p) [e, f] [] pos) (tE G E C (.isi a [t])) := by
  obtain ⟨h1, h2, h3, h4⟩ := s.blt hb
  refine PE.imp (pe_callB call_isi h1 h2 (by decide +kernel) (pa_cons ha (pa_cons (c_ty s ht) pa_nil (starOf (tyB_star ht))) (starOf hs)) h4 h3 (starOf hs) (noStars (by rw [List.all_cons, tyB_star ht]; rfl))) fun σ H Q ⟨w, S, env, b0, hw, kw, r, h⟩ => ?_
  subst hw
  simp only [evE] at h
  refine tE_bnd kw r h fun x b1 w1 v1 l1 k1 r1 re1 h1 => ?_
  obtain ⟨u, eu, h1⟩ := wpb_opt.mp h1
  obtain ⟨ks, ek, h1⟩ := wpb_opt.mp h1
  have rr := (rdR k1 r1 eu).hp k1
  have e2 : ∃ c, tyD t u = some c ∧ ks = [c] := by
    unfold mapO at ek
    cases hx : tyD t u with
    | none => rw [hx] at ek; cases ek
    | some c =>
      rw [hx] at ek
      exact ⟨c, rfl, (Option.some.inj ek).symm⟩
  obtain ⟨c, ec, rfl⟩ := e2
  obtain ⟨T, q1, q2⟩ := ty_ok (X := X) rr ec
  refine ⟨v1, .ty (tyN t), .type T, .type (tyN t), c, rfl, .ty _, q1, kit_ty q2, ?_⟩
  have q := Go.now (v := V.bl c) k1 h1 (by simp only [RepW, RepV, List.any_cons, List.any_nil, Bool.or_false, id])
  exact q
theorem c_isiT {a : Ex} {ts : List Ty} {e : Expr} {fs : List Expr} {kt : Nat} {p pos pt : Pos} (s : SC X CX G C E k Γ) (hb : bltB Γ "isinstance" = true) (ha : PE X e (tE G E C a)) (hs : notStar e = true) (ht : tysB Γ ts fs = true) (hl : ts.length ≤ 100) (hn : ts ≠ []) :
    PE X (.Call (.Name "isinstance" p) [e, .Tuple fs kt pt] [] pos) (tE G E C (.isi a ts)) := by
  obtain ⟨h1, h2, h3, h4⟩ := s.blt hb
  refine PE.imp (pe_callB call_isiT h1 h2 (by decide +kernel) (pa_cons ha (pa_cons (pe_tup (c_tys s ht)) pa_nil rfl) (starOf hs)) h4 h3 (starOf hs) rfl) fun σ H Q ⟨w, S, env, b0, hw, kw, r, h⟩ => ?_
  subst hw
  simp only [evE] at h
  refine tE_bnd kw r h fun x b1 w1 v1 l1 k1 r1 re1 h1 => ?_
  obtain ⟨u, eu, h1⟩ := wpb_opt.mp h1
  obtain ⟨ks, ek, h1⟩ := wpb_opt.mp h1
  refine ⟨by rw [List.length_map]; exact Nat.le_trans hl (by decide), fun tp hp => ?_⟩
  have l2 := le_still (o := .tup (ts.map fun t => V.ty (tyN t))) k1 hp
  have k2 := ok_still (o := .tup (ts.map fun t => V.ty (tyN t))) k1 hp
  have rr := (rdR k1 r1 eu).hp k1
  have rr2 : RepV G w1.p (upd w1.H tp (.tup (ts.map fun t => V.ty (tyN t)))) u v1 := RepV.mono (sub_upd hp) _ _ rr
  have some1 : ∃ t b, tyD t u = some b := by
    cases ts with
    | nil => exact absurd rfl hn
    | cons t ts =>
      unfold mapO at ek
      cases hx : tyD t u with
      | none => rw [hx] at ek; cases ek
      | some c => exact ⟨t, c, hx⟩
  obtain ⟨T, q1, q2⟩ := ty_one (X := X) rr2 some1
  have cls : ∀ l : List Ty, Paired ClsV (l.map fun t => V.ty (tyN t)) (l.map fun t => Value.type (tyN t)) := fun l => by
    induction l with
    | nil => exact .nil
    | cons t l ih => exact .cons (.ty _) ih
  refine ⟨v1, tp, _, .type T, _, ks.any id, rfl, upd_same, cls ts, q1, kits_ok rr2 q2 ek, ?_⟩
  exact h1 _ _ l2 k2 (by simp only [RepW, RepV])
theorem c_draw {p n : Ex} {e f : Expr} {q pos : Pos} (s : SC X CX G C E k Γ) (hd : Γ.drw ≠ ("" : Str)) (hg : glB Γ.sc Γ.drw = true) (ho : okName Γ.drw = true) (he : PE X e (tE G E C p)) (hf : PE X f (tE G E C n)) (hse : notStar e = true) (hsf : notStar f = true) : PE X (.Call (.Name Γ.drw q) [e, f] [] pos) (tE G E C (.draw p n)) := by
  obtain ⟨a, fd, ps, hm, hk, F, hb⟩ := s.lk.drw hd
  refine ⟨fun pins st σ H Q I ⟨w, S, env, b0, hw, kw, r, h⟩ => ?_⟩
  subst hw
  simp only [evE] at h
  refine wpAny_Call_Name_kw (ld_glob I (s.gl hg) hm ?_ (okName_ok ho).1)
  have pa := pa_cons he (pa_cons hf pa_nil (starOf hsf)) (starOf hse)
  have fin : tE G E C p σ w.H (fun x H1 => tE G E C n σ H1 fun y H2 => spDraw G [x, y] H2 Q E) := by
    refine tE_bnd kw r h fun x b1 w1 v1 l1 k1 r1 re1 h1 => ?_
    refine tE_bnd k1 re1 h1 fun y b2 w2 v2 l2 k2 r2 re2 h2 => ?_
    split at h2
    · rename_i m ex ey
      obtain ⟨⟨c1, c2⟩, b3, eb, h3⟩ := h2
      subst eb
      have r1' := l2.rep r1
      rw [ex] at r1'
      rw [ey] at r2
      obtain ⟨q, hq, e1⟩ : ∃ q, w2.p = some q ∧ v1 = .ref q := by
        have : RepV G w2.p w2.B .pen v1 := r1'
        simpa only [RepV] using this
      have e2 : v2 = .int m := rep_int (show RepV G w2.p w2.B (.int m) v2 from r2)
      subst e1 e2
      refine ⟨w2, y.2, b3, m, rfl, k2, ⟨q, hq, rfl⟩, c1, c2, fun v w' v0 v1 l' k' => ?_⟩
      exact h3 v v0 v1 w' (.int v) l' k' (by simp only [RepW, RepV])
    · exact h2.elim
  refine PySem.W.callWith_K (h₀ := X.base) I.ok.mod.kin hk (thn (pa.run pos pins st σ w.H (fun vs H2 => spDraw G vs H2 Q E) I fin) fun us s1 ⟨vs, H1, I1, rv, q⟩ => ⟨I1.kIn, ?_⟩) (starOf hse) (noStars (by rw [List.all_cons, hsf]; rfl))
  have hl : us.length = 2 := by
    obtain ⟨_, _, _, _, _, _, ⟨_, _, e1⟩, _⟩ := q
    rw [← rv.length, e1]
    rfl
  exact run_fnG F s.room s.gd (hb s1 us I1.kIn hl) s.pas I1 rv q
theorem notCall_base {o : Expr} {n : Str} {env : Env} (h : notCall o = true) : attributeBase o n env (eval o env) = eval o env := by
  cases o <;> first
    | rfl
    | cases h
theorem c_join {o as : Ex} {e f : Expr} {ap cp : Pos} (hl : ap.endLine = cp.line) (hn : notCall e = true) (ho : PE X e (tE G E C o)) (hc : chL as Γ [f] = true) (ha : PA X [f] (tA G E C as)) : PE X (.Call (.Attribute e "join" ap) [f] [] cp) (tE G E C (.me .join o as)) := by
  have hst := chL_stars hc
  rw [List.all_cons, Bool.and_eq_true] at hst
  refine PE.imp (pe_bm PySem.F.plainAttrs_str PySem.F.slot_str_join PySem.F.type_str_join (join_ok (G := G)) ho ha (notCall_base hn) (by rw [starOf hst.1]; rfl) (by rw [hl]; exact beq_self_eq_true _) (starOf hst.1) rfl) fun σ H Q ⟨w, S, env, b0, hw, kw, r, h⟩ => ?_
  subst hw
  simp only [evE] at h
  refine tE_bnd kw r h fun x b1 w1 v1 l1 k1 r1 re1 h1 => ?_
  obtain ⟨_, et, h1⟩ := wpb_opt.mp h1
  have es : ∃ cs, x.1 = .d (.str cs) := by
    unfold meT at et
    split at et
    · rename_i c e2
      exact ⟨_, e2⟩
    · cases et
  obtain ⟨cs, ex⟩ := es
  rw [ex] at r1
  have ev : v1 = .str ⟨cs.toArray⟩ := rep_str (show RepV G w1.p w1.B (.str cs) v1 from r1)
  refine ⟨by rw [ev]; rfl, ?_⟩
  refine tA_bndP (P := fun w => Go G w Q) (fun _ _ _ _ l q => Go.le l q) k1 re1 h1 fun y b2 w2 vs l2 k2 r2 re2 h2 => ?_
  obtain ⟨u, eu, h2⟩ := wpb_opt.mp h2
  obtain ⟨ds, eds, h2⟩ := wpb_opt.mp h2
  obtain ⟨z, ez, h2⟩ := wpb_opt.mp h2
  rw [ex] at eu
  exact ⟨w2, y.2, b2, u, ds, z, rfl, k2, rdR k2 (l2.rep r1) eu, rdRs k2 eds r2, ez, Go.nx h2⟩
theorem c_sub {a i : Ex} {e f : Expr} {pos : Pos} (ha : PE X e (tE G E C a)) (hi : PE X f (tE G E C i)) (hs : notSlice f = true) : PE X (.Subscript e f pos) (tE G E C (.sub a i)) := by
  refine PE.imp (pe_ix (sub_ok (G := G)) ha hi (fun o j => by cases f <;> first | rfl | cases hs)) fun σ H Q ⟨w, S, env, b0, hw, kw, r, h⟩ => ?_
  subst hw
  simp only [evE] at h
  refine tE_bnd kw r h fun x b1 w1 v1 l1 k1 r1 re1 h1 => ?_
  refine tE_bnd k1 re1 h1 fun y b2 w2 v2 l2 k2 r2 re2 h2 => ?_
  obtain ⟨u, eu, h2⟩ := wpb_opt.mp h2
  obtain ⟨v, ev, h2⟩ := wpb_opt.mp h2
  obtain ⟨z, ez, h2⟩ := wpb_opt.mp h2
  exact ⟨w2, y.2, b2, u, v, z, rfl, k2, rdR k2 (l2.rep r1) eu, dat_ok r2 ev, ez, Go.nx h2⟩
theorem c_lst {m : Bool} {es : Ex} {fs : List Expr} {pos : Pos} (ha : PA X fs (tA G E C es)) : PE X (.List fs pos) (tE G E C (.lst m es)) := by
  refine PE.imp (pe_lst ha) fun σ H Q ⟨w, S, env, b0, hw, kw, r, h⟩ => ?_
  subst hw
  simp only [evE] at h
  refine tA_bndP (P := fun w => Go G w Q) (fun _ _ _ _ l q => Go.le l q) kw r h fun x b1 w1 vs l1 k1 r1 re1 h1 => ?_
  obtain ⟨ds, eds, h1⟩ := wpb_opt.mp h1
  have rl := RepWs.dat eds r1
  split at h1
  · rename_i hl
    refine ⟨by rw [rl.length, ← lim_eq]; exact hl, fun p hp => ?_⟩
    cases m with
    | false =>
      rw [if_neg Bool.false_ne_true] at h1
      exact (Go.nx h1).lst k1 rl hp
    | true =>
      rw [if_pos rfl] at h1
      refine h1 (w1.more p vs) (.ref p) (le_more k1 hp) (ok_more k1 hp rl) ⟨p, ?_, rfl⟩
      show (w1.ρ ++ [p])[x.2.length]? = some p
      rw [List.getElem?_append_right (by rw [k1.len]; exact Nat.le_refl _), k1.len, Nat.sub_self]
      rfl
  · exact h1.elim
theorem c_tup {es : Ex} {fs : List Expr} {kt : Nat} {pos : Pos} (ha : PA X fs (tA G E C es)) : PE X (.Tuple fs kt pos) (tE G E C (.tup es)) := by
  refine PE.imp (pe_tup ha) fun σ H Q ⟨w, S, env, b0, hw, kw, r, h⟩ => ?_
  subst hw
  simp only [evE] at h
  refine tA_bndP (P := fun w => Go G w Q) (fun _ _ _ _ l q => Go.le l q) kw r h fun x b1 w1 vs l1 k1 r1 re1 h1 => ?_
  obtain ⟨ds, eds, h1⟩ := wpb_opt.mp h1
  have rl := RepWs.dat eds r1
  split at h1
  · rename_i hl
    exact ⟨by rw [rl.length, ← lim_eq]; exact hl, fun p hp => (Go.nx h1).tup k1 rl hp⟩
  · exact h1.elim
theorem c_frz {a : Ex} {e : Expr} (ha : PE X e (tE G E C a)) : PE X e (tE G E C (.frz a)) := by
  refine PE.imp ha fun σ H Q ⟨w, S, env, b0, hw, kw, r, h⟩ => ?_
  subst hw
  simp only [evE] at h
  refine tE_bnd kw r h fun x b1 w1 v1 l1 k1 r1 re1 h1 => ?_
  split at h1
  · rename_i u ex
    exact Go.now k1 h1 (by rw [← ex]; exact r1)
  · rename_i n ex
    split at h1
    · rename_i ds hS
      rw [ex] at r1
      obtain ⟨a', e1, rfl⟩ := r1
      obtain ⟨xs, q1, q2⟩ := k1.obs n a' _ e1 hS
      have hB := k1.off n a' ds e1 hS
      have hn := (List.getElem?_eq_some_iff.mp hS).1
      refine h1 (w1.freeze a' xs) (.ref a') (le_freeze e1 hB) (ok_freeze k1 e1 hB q1 hn) ?_
      show RepV G w1.p (upd w1.B a' (.lst xs)) (.lst ds) (.ref a')
      simp only [RepV]
      exact ⟨a', xs, rfl, upd_same, RepL.mono (sub_upd hB) _ _ q2⟩
    · exact h1.elim
theorem c_dct0 {pos : Pos} : PE X (.Dict [] [] pos) (tE G E C .dct0) := by
  refine PE.imp pe_dnewK fun σ H Q ⟨w, S, env, b0, hw, kw, r, h⟩ => ?_
  subst hw
  simp only [evE] at h
  intro a ha
  refine h (w.still a (.dK [])) (.ref a) (le_still kw ha) (ok_still kw ha) ?_
  show RepV G w.p (upd w.B a (.dK [])) (.dct [] []) (.ref a)
  simp only [RepV]
  exact ⟨a, [], rfl, upd_same, by simp only [RepL, List.map_nil], by simp only [RepL, List.map_nil]⟩
theorem c_ite {c a b : Ex} {e f g : Expr} {pos : Pos} (hc : PT X e (tT G E C c)) (ha : PE X f (tE G E C a)) (hb : PE X g (tE G E C b)) : PE X (.IfExp e f g pos) (tE G E C (.ite c a b)) := by
  refine PE.imp (pe_ifExp hc ha hb) fun σ H Q ⟨w, S, env, b0, hw, kw, r, h⟩ => ?_
  subst hw
  simp only [evE] at h
  show tT G E C c σ w.H (fun k H1 => if k = true then tE G E C a σ H1 Q else tE G E C b σ H1 Q)
  refine ⟨w, S, env, b0, rfl, kw, r, ?_⟩
  unfold tstE
  rw [M.wpb_bnd] at h ⊢
  refine (evE C c env S).wpb_mono h (fun x b1 h1 => ?_) fun _ _ _ q => q
  obtain ⟨u, eu, h1⟩ := wpb_opt.mp h1
  obtain ⟨z, ez, h1⟩ := wpb_opt.mp h1
  refine wpb_opt.mpr ⟨u, eu, wpb_opt.mpr ⟨z, ez, ?_⟩⟩
  intro w1 l1 k1
  have h2 := wle (G := G) (E := E) (Q1 := fun w => Go G w Q) l1 (fun _ _ q => Go.le l1 q) h1
  cases z with
  | true =>
    rw [if_pos rfl] at h2
    show (if true = true then _ else _)
    rw [if_pos rfl]
    exact ⟨w1, x.2, env, b1, rfl, k1, r.le l1, h2⟩
  | false =>
    rw [if_neg Bool.false_ne_true] at h2
    show (if false = true then _ else _)
    rw [if_neg Bool.false_ne_true]
    exact ⟨w1, x.2, env, b1, rfl, k1, r.le l1, h2⟩
def tP (G : Gam) (E : XK) (C : Calls) (lo : Ex) : TO := fun σ H Q => tA G E C lo σ H fun vs H1 => (vs = [] ∧ Q none H1) ∨ ∃ i, vs = [.int i] ∧ Q (some i) H1
theorem c_part {lo : Ex} {l : Option Expr} (h : (lo = .nil ∧ l = none) ∨ ∃ a e, lo = .cons a .nil ∧ l = some e ∧ PE X e (tE G E C a)) : PO X l (tP G E C lo) := by
  rcases h with ⟨rfl, rfl⟩ | ⟨a, e, rfl, rfl, ha⟩
  · refine ⟨fun pins s σ H Q I ⟨w, S, env, b, hw, kk, r, h⟩ => ?_⟩
    subst hw
    simp only [evL] at h
    refine po_none.run pins s σ _ Q I ?_
    rcases h w [] (Le.refl w) kk rfl with ⟨_, q⟩ | ⟨i, e, _⟩
    · exact q
    · cases e
  · refine ⟨fun pins s σ H Q I ⟨w, S, env, b, hw, kk, r, h⟩ => ?_⟩
    subst hw
    simp only [evL] at h
    refine (po_some ha).run pins s σ _ Q I ?_
    refine tE_bndP (P := fun w => Gos G w fun vs H1 => (vs = [] ∧ Q none H1) ∨ ∃ i, vs = [.int i] ∧ Q (some i) H1) (fun _ _ _ _ l q => Gos.le l q) kk r h fun x b1 w1 v1 l1 k1 r1 re1 h1 => ?_
    rcases h1 w1 [v1] (Le.refl _) k1 ⟨v1, [], rfl, r1, rfl⟩ with ⟨e, _⟩ | ⟨i, e, q⟩
    · cases e
    · cases e
      exact ⟨i, rfl, q⟩
theorem opt_rep {w : Wd} {ds : List D} {vs : List V} {i : Option Int} {Q : Option Int → Hp → Prop} {H : Hp} (r : RepL G w.p w.B ds vs) (e : optI ds = some i) (q : Q i H) : (vs = [] ∧ Q none H) ∨ ∃ i, vs = [.int i] ∧ Q (some i) H := by
  unfold optI at e
  split at e
  · cases Option.some.inj e
    simp only [RepL] at r
    exact .inl ⟨r, q⟩
  · cases Option.some.inj e
    simp only [RepL] at r
    obtain ⟨v, vs', e1, r1, e2⟩ := r
    subst e2
    exact .inr ⟨_, by rw [e1, rep_int r1], q⟩
  · cases e
theorem c_slice {a lo hi : Ex} {e : Expr} {l h' : Option Expr} {p2 pos : Pos} (ha : PE X e (tE G E C a)) (hl : PO X l (tP G E C lo)) (hh : PO X h' (tP G E C hi)) : PE X (.Subscript e (.Slice l h' none p2) pos) (tE G E C (.slice a lo hi)) := by
  refine PE.imp (pe_slice (slice_ok (G := G)) ha hl hh) fun σ H Q ⟨w, S, env, b0, hw, kw, r, h⟩ => ?_
  subst hw
  simp only [evE] at h
  refine tE_bnd kw r h fun x b1 w1 v1 l1 k1 r1 re1 h1 => ?_
  refine tA_bndP (P := fun w => Go G w Q) (fun _ _ _ _ l q => Go.le l q) k1 re1 h1 fun y b2 w2 vs l2 k2 r2 re2 h2 => ?_
  obtain ⟨ds, eds, h2⟩ := wpb_opt.mp h2
  obtain ⟨i, ei, h2⟩ := wpb_opt.mp h2
  refine opt_rep (Q := fun i H1 => tP G E C hi σ H1 fun u H3 => rSlice G v1 i u H3 Q) (RepWs.dat eds r2) ei ?_
  refine tA_bndP (P := fun w => Go G w Q) (fun _ _ _ _ l q => Go.le l q) k2 re2 h2 fun z b3 w3 vs3 l3 k3 r3 re3 h3 => ?_
  obtain ⟨es, ees, h3⟩ := wpb_opt.mp h3
  obtain ⟨j, ej, h3⟩ := wpb_opt.mp h3
  obtain ⟨u, eu, h3⟩ := wpb_opt.mp h3
  obtain ⟨q, eq, h3⟩ := wpb_opt.mp h3
  refine opt_rep (Q := fun j H1 => rSlice G v1 i j H1 Q) (RepWs.dat ees r3) ej ?_
  exact ⟨w3, z.2, b3, u, q, rfl, k3, rdR k3 (l3.rep (l2.rep r1)) eu, eq, Go.nx h3⟩
end
end RL
end

section
set_option Elab.async false
set_option linter.all false
set_option maxHeartbeats 4000000
/-! RL14: targets; what loops go over. Own work. -/
namespace RL
open PySem PySem.Spec PyProof.Rows L2

/-! ### slots forgotten -/
theorem wipe_at (σ : L2.St) : ∀ (vs : List Nat) (j : Nat), (wipe σ vs)[j]? = if j ∈ vs then (if j < σ.length then some none else none) else σ[j]?
  | [], j => by simp [wipe]
  | v :: vs, j => by
    unfold wipe
    by_cases hv : v = j
    · subst hv
      rw [if_pos (List.mem_cons_self ..)]
      by_cases hl : v < σ.length
      · rw [List.getElem?_set_self (by rw [wipe_length]; exact hl), if_pos hl]
      · rw [List.getElem?_eq_none (by rw [List.length_set, wipe_length]; omega), if_neg hl]
    · rw [List.getElem?_set_ne hv, wipe_at σ vs j]
      by_cases hm : j ∈ vs
      · rw [if_pos hm, if_pos (List.mem_cons_of_mem _ hm)]
      · rw [if_neg hm, if_neg (fun h => (List.mem_cons.mp h).elim (fun e => hv e.symm) hm)]
theorem wipe_ext {σ τ : L2.St} {vs : List Nat} (hl : σ.length = τ.length) (h : ∀ j, j ∉ vs → σ[j]? = τ[j]?) : wipe σ vs = wipe τ vs := by
  refine List.ext_getElem? fun j => ?_
  rw [wipe_at, wipe_at, hl]
  by_cases hm : j ∈ vs
  · rw [if_pos hm, if_pos hm]
  · rw [if_neg hm, if_neg hm, h j hm]
theorem wipe_wipe (σ : L2.St) (vs : List Nat) : wipe (wipe σ vs) vs = wipe σ vs :=
  wipe_ext (wipe_length σ vs) fun j h => by rw [wipe_at, if_neg h]

/-- slots but for those in U -/
structure RepU (G : Gam) (w : Wd) (env : EnvD) (σ : L2.St) (U : Nat → Prop) : Prop where
  len : σ.length = env.length
  at_ : ∀ (i : Nat) (x : W), ¬ U i → env[i]? = some (some x) → ∃ v, σ[i]? = some (some v) ∧ RepW G w x v
theorem RepE.u {G : Gam} {w : Wd} {env : EnvD} {σ : L2.St} (h : RepE G w env σ) (U : Nat → Prop) : RepU G w env σ U := ⟨h.len, fun i x _ => h.at_ i x⟩
theorem RepU.e {G : Gam} {w : Wd} {env : EnvD} {σ : L2.St} {U : Nat → Prop} (h : RepU G w env σ U) (k : ∀ i, ¬ U i) : RepE G w env σ := ⟨h.len, fun i x => h.at_ i x (k i)⟩
theorem RepU.wiped {G : Gam} {w : Wd} {env : EnvD} {σ : L2.St} (h : RepE G w env σ) (vs : List Nat) : RepU G w env (wipe σ vs) (· ∈ vs) :=
  ⟨by rw [wipe_length]; exact h.len, fun i x hu e => by
    rw [wipe_at, if_neg hu]
    exact h.at_ i x e⟩
theorem RepU.set {G : Gam} {w : Wd} {env : EnvD} {σ : L2.St} {U : Nat → Prop} {i : Nat} {x : W} {v : V} (h : RepU G w env σ U) (r : RepW G w x v) : RepU G w (env.set i (some x)) (σ.set i (some v)) (fun j => U j ∧ j ≠ i) := by
  refine ⟨by simp [h.len], fun j y hu e => ?_⟩
  by_cases hj : i = j
  · subst hj
    by_cases hl : i < env.length
    · rw [List.getElem?_set_self hl] at e
      cases e
      exact ⟨v, by rw [List.getElem?_set_self (by rw [h.len]; exact hl)], r⟩
    · rw [List.getElem?_eq_none (by simp; omega)] at e
      cases e
  · rw [List.getElem?_set_ne hj] at e
    obtain ⟨u, e1, r1⟩ := h.at_ j y (fun q => hu ⟨q, fun z => hj z.symm⟩) e
    exact ⟨u, by rw [List.getElem?_set_ne hj]; exact e1, r1⟩
theorem RepU.mono {G : Gam} {w : Wd} {env : EnvD} {σ : L2.St} {U U' : Nat → Prop} (h : RepU G w env σ U) (k : ∀ i, U i → U' i) : RepU G w env σ U' := ⟨h.len, fun i x hu => h.at_ i x fun q => hu (k i q)⟩

mutual
def gP (K : PySem.W.Frag) : Pat → TG
  | .name i => gName i
  | .nil => gTup K 0 gNil
  | .cons p q => gTup K (q.wide + 1) (gCons (gP K p) (gPs K q))
def gPs (K : PySem.W.Frag) : Pat → TGs
  | .nil => gNil
  | .cons p q => gCons (gP K p) (gPs K q)
  | .name _ => fun _ _ _ _ => False
end
section
variable {G : Gam} {w : Wd}
theorem rd_of {B H : Hp} {a : Addr} {o : HO} (s : Sub B H) (h : B a = some o) : Rd H a o := .inl (s _ _ h)
/-- what it is to have bound a target -/
structure Bd (G : Gam) (w : Wd) (env : EnvD) (σ : L2.St) (sl : List Nat) (U : Nat → Prop) (σ' : L2.St) : Prop where
  rep : RepU G w env σ' (fun i => U i ∧ i ∉ sl)
  len : σ'.length = σ.length
  same : ∀ j, j ∉ sl → σ'[j]? = σ[j]?
theorem bindPs_length : ∀ (p : Pat) {ds : List D} {env env' : EnvD}, bindPs p ds env = some env' → ds.length = p.wide
  | .nil, ds, env, env', h => by
    cases ds with
    | nil => rfl
    | cons d ds => simp only [bindPs] at h; cases h
  | .cons p q, ds, env, env', h => by
    cases ds with
    | nil => simp only [bindPs] at h; cases h
    | cons d ds =>
      simp only [bindPs] at h
      cases e : bindP p d env with
      | none => rw [e] at h; cases h
      | some e1 =>
        rw [e] at h
        rw [List.length_cons, bindPs_length q h]
        rfl
  | .name i, ds, env, env', h => by simp only [bindPs] at h; cases h
mutual
theorem gP_ok {K : PySem.W.Frag} : ∀ (p : Pat) {d : D} {env env' : EnvD} {σ : L2.St} {v : V} {H : Hp} {U : Nat → Prop} {Q : L2.St → Hp → Prop}, bindP p d env = some env' → RepU G w env σ U → Sub w.B H → RepV G w.p w.B d v →
    (∀ σ', Bd G w env' σ p.slots U σ' → Q σ' H) → gP K p v σ H Q
  | .name i, d, env, env', σ, v, H, U, Q, h, r, s, rv, q => by
    simp only [bindP] at h
    split at h
    · have e : env.set i (some (.d d)) = env' := Option.some.inj h
      subst e
      simp only [gP, gName]
      refine q _ ⟨?_, by rw [List.length_set], fun j hj => ?_⟩
      · exact (r.set (x := .d d) rv).mono fun j hj => ⟨hj.1, by simp [Pat.slots]; exact hj.2⟩
      · rw [List.getElem?_set_ne]
        simp [Pat.slots] at hj
        exact fun e => hj e.symm
    · cases h
  | .nil, d, env, env', σ, v, H, U, Q, h, r, s, rv, q => by
    cases d <;> simp only [bindP] at h <;> try (cases h; done)
    rename_i ds
    split at h
    · rename_i he
      have e : env = env' := Option.some.inj h
      subst e
      have he : ds = [] := List.isEmpty_iff.mp he
      subst he
      obtain ⟨a, xs, rfl, h1, h2⟩ := rep_tup rv
      have h2 : xs = [] := by simpa only [RepL] using h2
      subst h2
      simp only [gP, gTup, gNil]
      exact ⟨a, [], rfl, .inl (rd_of s h1), rfl, rfl, q _ ⟨r.mono fun j hj => ⟨hj, by simp [Pat.slots]⟩, rfl, fun _ _ => rfl⟩⟩
    · cases h
  | .cons p p', d, env, env', σ, v, H, U, Q, h, r, s, rv, q => by
    cases d <;> simp only [bindP] at h <;> try (cases h; done)
    rename_i ds
    obtain ⟨a, xs, rfl, h1, h2⟩ := rep_tup rv
    have hl : xs.length = p'.wide + 1 := by rw [h2.length, bindPs_length (.cons p p') h]; rfl
    have hh := gPs_ok (K := K) (.cons p p') h r s h2 q
    simp only [gP, gTup]
    simp only [gPs] at hh
    exact ⟨a, xs, rfl, .inl (rd_of s h1), hl, hh⟩
theorem gPs_ok {K : PySem.W.Frag} : ∀ (p : Pat) {ds : List D} {env env' : EnvD} {σ : L2.St} {vs : List V} {H : Hp} {U : Nat → Prop} {Q : L2.St → Hp → Prop}, bindPs p ds env = some env' → RepU G w env σ U → Sub w.B H → RepL G w.p w.B ds vs →
    (∀ σ', Bd G w env' σ p.slots U σ' → Q σ' H) → gPs K p vs σ H Q
  | .nil, ds, env, env', σ, vs, H, U, Q, h, r, s, rv, q => by
    cases ds with
    | nil =>
      simp only [bindPs] at h
      have e : env = env' := Option.some.inj h
      subst e
      have h2 : vs = [] := by simpa only [RepL] using rv
      subst h2
      simp only [gPs]
      exact ⟨rfl, q _ ⟨r.mono fun j hj => ⟨hj, by simp [Pat.slots]⟩, rfl, fun _ _ => rfl⟩⟩
    | cons d ds => simp only [bindPs] at h; cases h
  | .cons p p', ds, env, env', σ, vs, H, U, Q, h, r, s, rv, q => by
    cases ds with
    | nil => simp only [bindPs] at h; cases h
    | cons d ds =>
      simp only [bindPs] at h
      cases e : bindP p d env with
      | none => rw [e] at h; cases h
      | some e1 =>
        rw [e] at h
        simp only [RepL] at rv
        obtain ⟨v, vs', rfl, r1, r2⟩ := rv
        simp only [gPs, gCons]
        refine ⟨v, vs', rfl, gP_ok (K := K) p e r s r1 fun σ1 b1 => ?_⟩
        refine gPs_ok (K := K) p' h b1.rep s r2 fun σ2 b2 => q _ ⟨?_, b2.len.trans b1.len, fun j hj => ?_⟩
        · exact b2.rep.mono fun j hj => ⟨hj.1.1, by simp only [Pat.slots, List.mem_append, not_or]; exact ⟨hj.1.2, hj.2⟩⟩
        · simp only [Pat.slots, List.mem_append, not_or] at hj
          exact (b2.same j hj.2).trans (b1.same j hj.1)
  | .name i, ds, env, env', σ, vs, H, U, Q, h, r, s, rv, q => by simp only [bindPs] at h; cases h
end
end
theorem asgEach_cons {e : Expr} {es : List Expr} {env : Env} (h : notStar e = true) : assignEach (e :: es) env = (false, assign e env) :: assignEach es env := by
  cases e <;> first | rfl | cases h
section
variable {X : Cx} {CX : CXT} {G : Gam} {C : Calls} {E : XK} {k : Nat} {Γ : Nm}
theorem SC.store (s : SC X CX G C E k Γ) {i : Nat} {x : Str} (h : stB Γ i x = true) : X.N[i]? = some x ∧ Loc X.env.scope x ∧ (X.fn x = true ∨ X.env.scope.names.lookup x = some .local) := by
  unfold stB at h
  simp only [Bool.and_eq_true, decide_eq_true_eq, Bool.or_eq_true] at h
  obtain ⟨⟨h1, h2⟩, h3⟩ := h
  refine ⟨by rw [s.N]; exact h1, s.loc h2, ?_⟩
  rcases h3 with h3 | h3
  · exact .inl (s.st x h3)
  · exact .inr (by rw [s.sc]; exact h3)
theorem chPs_each : ∀ (p : Pat) {es : List Expr} {env : Env}, chPs p Γ es = true → (assignEach es env).length = p.wide ∧ (assignEach es env).findIdx? (·.1) = none
  | .nil, [], env, _ => ⟨rfl, rfl⟩
  | .nil, e :: es, env, h => by simp only [chPs] at h; cases h
  | .cons p q, [], env, h => by simp only [chPs] at h; cases h
  | .cons p q, e :: es, env, h => by
    simp only [chPs, Bool.and_eq_true] at h
    obtain ⟨h1, h2⟩ := chPs_each q (env := env) h.2
    rw [asgEach_cons h.1.2]
    refine ⟨by rw [List.length_cons, h1]; rfl, ?_⟩
    rw [List.findIdx?_cons, h2]
    rfl
  | .name i, es, env, h => by simp only [chPs] at h; cases h
mutual
theorem c_pat (s : SC X CX G C E k Γ) : ∀ (p : Pat) {tg : Expr}, chP p Γ tg = true → PG X tg (gP X.K p)
  | .name i, tg, h => by
    cases tg <;> simp only [chP] at h <;> try (cases h; done)
    obtain ⟨h1, h2, h3⟩ := s.store h
    simp only [gP]
    exact pg_name s.nd h1 h2 h3
  | .nil, tg, h => by
    cases tg <;> try (simp only [chP] at h; cases h; done)
    rename_i es kt pos
    cases es with
    | nil =>
      simp only [gP]
      exact pg_tup s.calm pgs_nil
    | cons e es => simp only [chP] at h; cases h
  | .cons p q, tg, h => by
    cases tg <;> try (simp only [chP] at h; cases h; done)
    rename_i es kt pos
    have h : chPs (.cons p q) Γ es = true := by simpa only [chP] using h
    obtain ⟨h1, h2⟩ := chPs_each (.cons p q) (env := X.env) h
    simp only [gP]
    have hh := c_pats s (.cons p q) h
    simp only [gPs] at hh
    exact pg_tup s.calm hh h1 h2
theorem c_pats (s : SC X CX G C E k Γ) : ∀ (p : Pat) {es : List Expr}, chPs p Γ es = true → PGs X es (gPs X.K p)
  | .nil, [], _ => by
    simp only [gPs]
    exact pgs_nil
  | .nil, e :: es, h => by simp only [chPs] at h; cases h
  | .cons p q, [], h => by simp only [chPs] at h; cases h
  | .cons p q, e :: es, h => by
    simp only [chPs, Bool.and_eq_true] at h
    simp only [gPs]
    exact pgs_cons (c_pat s p h.1.1) (c_pats s q h.2) (by rw [asgEach_cons h.1.2]; rfl)
  | .name i, es, h => by simp only [chPs] at h; cases h
end
theorem chP_slots : ∀ (p : Pat) {tg : Expr}, chP p Γ tg = true → ∀ i ∈ p.slots, ∃ x, Γ.N[i]? = some x := by
  have stx : ∀ {i : Nat} {x : Str}, stB Γ i x = true → Γ.N[i]? = some x := fun {i x} h => by
    unfold stB at h
    simp only [Bool.and_eq_true, decide_eq_true_eq] at h
    exact h.1.1
  have go : ∀ (p : Pat), (∀ {tg : Expr}, chP p Γ tg = true → ∀ i ∈ p.slots, ∃ x, Γ.N[i]? = some x) ∧ (∀ {es : List Expr}, chPs p Γ es = true → ∀ i ∈ p.slots, ∃ x, Γ.N[i]? = some x) := fun p => by
    induction p with
    | name j =>
      refine ⟨fun {tg} h i hi => ?_, fun {es} h => by simp only [chPs] at h; cases h⟩
      cases tg <;> simp only [chP] at h <;> try (cases h; done)
      simp [Pat.slots] at hi
      subst hi
      exact ⟨_, stx h⟩
    | nil => exact ⟨fun _ i hi => by simp [Pat.slots] at hi, fun _ i hi => by simp [Pat.slots] at hi⟩
    | cons p q ihp ihq =>
      have two : ∀ {es : List Expr}, chPs (.cons p q) Γ es = true → ∀ i ∈ (Pat.cons p q).slots, ∃ x, Γ.N[i]? = some x := fun {es} h i hi => by
        cases es with
        | nil => simp only [chPs] at h; cases h
        | cons e es =>
          simp only [chPs, Bool.and_eq_true] at h
          simp only [Pat.slots, List.mem_append] at hi
          rcases hi with hi | hi
          · exact ihp.1 h.1.1 i hi
          · exact ihq.2 h.2 i hi
      refine ⟨fun {tg} h => ?_, two⟩
      cases tg <;> try (simp only [chP] at h; cases h; done)
      exact two (by simpa only [chP] using h)
  exact fun p {tg} h => (go p).1 h
theorem own_slots {N : List Str} {p : Pat} (h : ∀ i ∈ p.slots, ∃ x, N[i]? = some x) : ∀ i, i ∈ (p.own N).map (·.2) ↔ i ∈ p.slots := fun i => by
  unfold Pat.own
  rw [List.mem_map]
  constructor
  · rintro ⟨⟨x, j⟩, h1, h2⟩
    rw [List.mem_filterMap] at h1
    obtain ⟨a, ha, e⟩ := h1
    cases hN : N[a]? with
    | none => rw [hN] at e; cases e
    | some y =>
      rw [hN] at e
      have e' : (y, a) = (x, j) := Option.some.inj e
      cases e'
      cases h2
      exact ha
  · intro hi
    obtain ⟨x, e⟩ := h i hi
    refine ⟨(x, i), List.mem_filterMap.mpr ⟨i, hi, ?_⟩, rfl⟩
    rw [e]
    rfl
end

/-! ### what loops go over -/
structure WalkR (G : Gam) (w : Wd) (J : It) (its : List D) : Prop where
  goes : ∀ i w' S b, Le w w' → Ok G w' S b → i < its.length → J.go i w'.H
  stops : ∀ w' S b, Le w w' → Ok G w' S b → J.stop its.length w'.H
  yields : ∀ i w' S b x H' d, Le w w' → Ok G w' S b → its[i]? = some d → J.yld i w'.H x H' → ∃ w2, Le w' w2 ∧ Ok G w2 S b ∧ w2.H = H' ∧ RepV G w2.p w2.B d x
theorem WalkR.le {G : Gam} {w w1 : Wd} {J : It} {its : List D} (l : Le w w1) (h : WalkR G w J its) : WalkR G w1 J its :=
  ⟨fun i w' S b l' => h.goes i w' S b (l.trans l'), fun w' S b l' => h.stops w' S b (l.trans l'), fun i w' S b x H' d l' => h.yields i w' S b x H' d (l.trans l')⟩
section
variable {G : Gam} {K : PySem.W.Frag} {w : Wd}
theorem sqL_in {w' : Wd} {S : Sto} {b : Nat} {a : Addr} {xs : List V} (l : Le w w') (k : Ok G w' S b) (h : w.B a = some (.lst xs)) : SqL K w'.H a xs := .inl (.inl (k.sub _ _ (l.B _ _ h)))
theorem sqT_in {w' : Wd} {S : Sto} {b : Nat} {a : Addr} {xs : List V} (l : Le w w') (k : Ok G w' S b) (h : w.B a = some (.tup xs)) : SqT K w'.H a xs := .inl (.inl (k.sub _ _ (l.B _ _ h)))
theorem some_lt {ds : List D} {i : Nat} {d : D} (e : ds[i]? = some d) : i < ds.length := (List.getElem?_eq_some_iff.mp e).1
theorem walkR_list {a : Addr} {xs : List V} {ds : List D} (h : w.B a = some (.lst xs)) (r : RepL G w.p w.B ds xs) : WalkR G w (Itl K a) ds where
  goes := fun i w' S b l k hi => (walk_list (K := K) (a := a) (xs := xs)).goes i _ (by rw [r.length]; exact hi) (sqL_in l k h)
  stops := fun w' S b l k => by
    have := (walk_list (K := K) (a := a) (xs := xs)).stops _ (sqL_in l k h)
    rw [r.length] at this
    exact this
  yields := fun i w' S b x H' d l k e y => by
    obtain ⟨e1, e2⟩ := (walk_list (K := K) (a := a) (xs := xs)).yields i _ x H' (by rw [r.length]; exact some_lt e) (sqL_in l k h) y
    subst e1
    obtain ⟨v, e3, r3⟩ := r.get e
    rw [e2] at e3
    cases e3
    exact ⟨w', Le.refl _, k, rfl, l.rep (x := .d d) r3⟩
theorem walkR_tup {a : Addr} {xs : List V} {ds : List D} (h : w.B a = some (.tup xs)) (r : RepL G w.p w.B ds xs) : WalkR G w (Itt K a) ds where
  goes := fun i w' S b l k hi => (walk_tup (K := K) (a := a) (xs := xs)).goes i _ (by rw [r.length]; exact hi) (sqT_in l k h)
  stops := fun w' S b l k => by
    have := (walk_tup (K := K) (a := a) (xs := xs)).stops _ (sqT_in l k h)
    rw [r.length] at this
    exact this
  yields := fun i w' S b x H' d l k e y => by
    obtain ⟨e1, e2⟩ := (walk_tup (K := K) (a := a) (xs := xs)).yields i _ x H' (by rw [r.length]; exact some_lt e) (sqT_in l k h) y
    subst e1
    obtain ⟨v, e3, r3⟩ := r.get e
    rw [e2] at e3
    cases e3
    exact ⟨w', Le.refl _, k, rfl, l.rep (x := .d d) r3⟩
theorem walkR_str {cs : List Nat} : WalkR G w (Its ⟨cs.toArray⟩) (cs.map fun c => .str [c]) where
  goes := fun i w' S b l k hi => by
    show i < cs.toArray.size
    simpa using hi
  stops := fun w' S b l k => by
    show cs.toArray.size ≤ _
    simp
  yields := fun i w' S b x H' d l k e y => by
    obtain ⟨e1, c, e2, e3⟩ := (walk_str (z := ⟨cs.toArray⟩)).yields i _ x H' (by have := some_lt e; simpa using this) True.intro y
    subst e1 e3
    have e2 : cs[i]? = some c := by simpa using e2
    rw [List.getElem?_map, e2] at e
    cases e
    exact ⟨w', Le.refl _, k, rfl, by simp only [RepV]⟩
theorem upD_length : ∀ (n : Nat) (lo : Int), (upD lo n).length = n
  | 0, _ => rfl
  | n + 1, lo => by simp only [upD, List.length_cons, upD_length n]
theorem upD_at : ∀ (n : Nat) (lo : Int) (i : Nat) (d : D), (upD lo n)[i]? = some d → d = .int (lo + i)
  | 0, lo, i, d, e => by simp [upD] at e
  | n + 1, lo, 0, d, e => by
    simp only [upD, List.getElem?_cons_zero, Option.some.injEq] at e
    rw [← e]
    simp
  | n + 1, lo, i + 1, d, e => by
    simp only [upD, List.getElem?_cons_succ] at e
    rw [upD_at n (lo + 1) i d e]
    congr 1
    omega
theorem walkR_range {lo : Int} {n : Nat} : WalkR G w (Itr lo n) (upD lo n) where
  goes := fun i w' S b l k hi => by
    show i < n
    rw [upD_length] at hi
    exact hi
  stops := fun w' S b l k => by
    show n ≤ _
    rw [upD_length]
    exact Nat.le_refl _
  yields := fun i w' S b x H' d l k e y => by
    obtain ⟨e1, e2⟩ := y
    subst e1 e2
    rw [upD_at n lo i d e]
    exact ⟨w', Le.refl _, k, rfl, by simp only [RepV]⟩
theorem enumD_length : ∀ (ds : List D) (i : Int), (enumD i ds).length = ds.length
  | [], _ => rfl
  | d :: ds, i => by simp only [enumD, List.length_cons, enumD_length ds]
theorem enumD_at : ∀ (ds : List D) (s : Int) (i : Nat) (d : D), (enumD s ds)[i]? = some d → ∃ x, ds[i]? = some x ∧ d = .tup [.int (s + i), x]
  | [], s, i, d, e => by simp [enumD] at e
  | x :: ds, s, 0, d, e => by
    simp only [enumD, List.getElem?_cons_zero, Option.some.injEq] at e
    exact ⟨x, rfl, by rw [← e]; simp⟩
  | x :: ds, s, i + 1, d, e => by
    simp only [enumD, List.getElem?_cons_succ] at e
    obtain ⟨y, e1, e2⟩ := enumD_at ds (s + 1) i d e
    refine ⟨y, by rw [List.getElem?_cons_succ]; exact e1, ?_⟩
    rw [e2]
    congr 3
    omega
theorem zipD_length : ∀ (as bs : List D), (zipD as bs).length = min as.length bs.length
  | [], _ => by simp [zipD]
  | a :: as, [] => by simp [zipD]
  | a :: as, b :: bs => by
    simp only [zipD, List.length_cons, zipD_length as bs]
    omega
theorem zipD_at : ∀ (as bs : List D) (i : Nat) (d : D), (zipD as bs)[i]? = some d → ∃ x y, as[i]? = some x ∧ bs[i]? = some y ∧ d = .tup [x, y]
  | [], _, i, d, e => by simp [zipD] at e
  | a :: as, [], i, d, e => by simp [zipD] at e
  | a :: as, b :: bs, 0, d, e => by
    simp only [zipD, List.getElem?_cons_zero, Option.some.injEq] at e
    exact ⟨a, b, rfl, rfl, e.symm⟩
  | a :: as, b :: bs, i + 1, d, e => by
    simp only [zipD, List.getElem?_cons_succ] at e
    obtain ⟨x, y, e1, e2, e3⟩ := zipD_at as bs i d e
    exact ⟨x, y, by rw [List.getElem?_cons_succ]; exact e1, by rw [List.getElem?_cons_succ]; exact e2, e3⟩
/-- a new pair -/
theorem pair_new {w' : Wd} {S : Sto} {b : Nat} {T : Addr} {x y : V} {H' : Hp} {d e : D} (k : Ok G w' S b) (hT : w'.H T = none) (e1 : H' = upd w'.H T (.tup [x, y])) (r1 : RepV G w'.p w'.B d x) (r2 : RepV G w'.p w'.B e y) :
    ∃ w2, Le w' w2 ∧ Ok G w2 S b ∧ w2.H = H' ∧ RepV G w2.p w2.B (.tup [d, e]) (.ref T) := by
  have l := le_still (o := .tup [x, y]) k hT
  refine ⟨w'.still T (.tup [x, y]), l, ok_still k hT, e1.symm, ?_⟩
  simp only [RepV]
  refine ⟨T, [x, y], rfl, upd_same, ?_⟩
  exact l.repL (ds := [d, e]) ⟨x, [y], rfl, r1, y, [], rfl, r2, rfl⟩
theorem walkR_enum {a : Addr} {xs : List V} {ds : List D} (h : w.B a = some (.lst xs)) (r : RepL G w.p w.B ds xs) : WalkR G w (Ite K a) (enumD 0 ds) where
  goes := fun i w' S b l k hi => (walk_enum (K := K) (a := a) (xs := xs)).goes i _ (by rw [r.length]; rw [enumD_length] at hi; exact hi) (sqL_in l k h)
  stops := fun w' S b l k => by
    have := (walk_enum (K := K) (a := a) (xs := xs)).stops _ (sqL_in l k h)
    rw [r.length] at this
    rw [enumD_length]
    exact this
  yields := fun i w' S b x H' d l k e y => by
    have hi := some_lt e
    rw [enumD_length] at hi
    obtain ⟨T, u, v, e1, e2, e3, e4, e5⟩ := (walk_enum (K := K) (a := a) (xs := xs)).yields i _ x H' (by rw [r.length]; exact hi) (sqL_in l k h) y
    obtain ⟨z, f1, f2⟩ := enumD_at ds 0 i d e
    obtain ⟨v', g1, g2⟩ := r.get f1
    have e5 : xs[i]? = some v := e5
    rw [e5] at g1
    cases g1
    cases e4
    subst e1
    subst f2
    refine pair_new k e2 e3 ?_ (l.rep (x := .d z) g2)
    simp only [RepV]
    rw [Int.zero_add]
theorem walkR_zip {a b : Addr} {xs ys : List V} {ds es : List D} (h : w.B a = some (.lst xs)) (r : RepL G w.p w.B ds xs) (h2 : w.B b = some (.lst ys)) (r2 : RepL G w.p w.B es ys) : WalkR G w (Itz K a b) (zipD ds es) where
  goes := fun i w' S c l k hi => (walk_zip (K := K) (a := a) (b := b) (xs := xs) (ys := ys) rfl).goes i _ (by rw [r.length, r2.length]; rw [zipD_length] at hi; exact hi) ⟨sqL_in l k h, sqL_in l k h2⟩
  stops := fun w' S c l k => by
    have := (walk_zip (K := K) (a := a) (b := b) (xs := xs) (ys := ys) rfl).stops _ ⟨sqL_in l k h, sqL_in l k h2⟩
    rw [r.length, r2.length] at this
    rw [zipD_length]
    exact this
  yields := fun i w' S c x H' d l k e y => by
    have hi := some_lt e
    rw [zipD_length] at hi
    obtain ⟨T, u, v, e1, e2, e3, e4, e5⟩ := (walk_zip (K := K) (a := a) (b := b) (xs := xs) (ys := ys) rfl).yields i _ x H' (by rw [r.length, r2.length]; exact hi) ⟨sqL_in l k h, sqL_in l k h2⟩ y
    obtain ⟨z1, z2, f1, f2, f3⟩ := zipD_at ds es i d e
    obtain ⟨v1, g1, g2⟩ := r.get f1
    obtain ⟨v2, g3, g4⟩ := r2.get f2
    have e4 : xs[i]? = some u := e4
    have e5 : ys[i]? = some v := e5
    rw [e4] at g1
    rw [e5] at g3
    cases g1
    cases g3
    subst e1
    subst f3
    exact pair_new k e2 e3 (l.rep (x := .d z1) g2) (l.rep (x := .d z2) g4)
end

/-! ### iterators -/
def iD (G : Gam) (E : XK) (C : Calls) (k : Wk) (src : Ex) : TI := fun σ H R => tA G E C src σ H fun vs H1 => ∃ w S b ds its, w.H = H1 ∧ Ok G w S b ∧ RepL G w.p w.B ds vs ∧ walkD k ds = some its ∧ ∀ J, WalkR G w J its → R J H1
section
variable {X : Cx} {CX : CXT} {G : Gam} {C : Calls} {E : XK} {k : Nat} {Γ : Nm}
theorem PI.imp {X : Cx} {tg e : Expr} {t t' : TI} (h : PI X tg e t) (f : ∀ σ H R, t' σ H R → t σ H R) : PI X tg e t' := ⟨fun pins s σ H R I q => h.run pins s σ H R I (f σ H R q)⟩
theorem tA_imp {src : Ex} {σ : L2.St} {H : Hp} {R R' : List V → Hp → Prop} (h : tA G E C src σ H R) (f : ∀ vs H1, R vs H1 → R' vs H1) : tA G E C src σ H R' := by
  obtain ⟨w, S, env, b, hw, kw, r, h⟩ := h
  exact ⟨w, S, env, b, hw, kw, r, (evL C src env S).wpb_mono h (fun a b q w' vs l k r => f _ _ (q w' vs l k r)) fun _ _ _ q => q⟩
theorem i_val {src : Ex} {tg e : Expr} {te : TE} (he : PE X e te) (hs : ∀ σ H R, tA G E C src σ H R → te σ H fun v H1 => R [v] H1) : PI X tg e (iD G E C .val src) := by
  refine ⟨fun pins s σ H R I h => ?_⟩
  refine thn (he.run pins s σ H _ I (hs _ _ _ h)) fun v s1 ⟨x, H1, I1, r1, q1⟩ => ?_
  obtain ⟨w, S, b, ds, its, hw, kw, rl, ew, q⟩ := q1
  subst hw
  unfold walkD at ew
  split at ew <;> try (first | (rename_i hk; cases hk; done) | (cases ew; done))
  · rename_i d
    simp only [RepL] at rl
    obtain ⟨v', vs', e1, rv, e2⟩ := rl
    subst e2
    cases e1
    unfold itemsD at ew
    split at ew
    · rename_i ds
      cases Option.some.inj ew
      obtain ⟨a, xs, rfl, h1, h2⟩ := rep_lst rv
      cases r1
      obtain ⟨its, rv', p, hz⟩ := I1.list (.inl (.inl (kw.sub _ _ h1)))
      refine wpAny_pyIter_list p.isList ?_
      refine ⟨s1.heap.objs.size, [s1.heap.objs.size], _, _, w.H, rfl, I1.kept (t' := s1.toks) fun b o e => Heap.get?_push_of_some _ e, turn_list a _, ⟨_, Heap.get?_push_size _ rfl, rfl, rfl⟩, fun b hb => ?_, q _ (walkR_list h1 h2)⟩
      have e : b = s1.heap.objs.size := by simpa using hb
      subst e
      exact I1.fpOk (Nat.le_refl _) (I1.hok.fresh (Nat.le_refl _))
    · rename_i ds
      cases Option.some.inj ew
      obtain ⟨a, xs, rfl, h1, h2⟩ := rep_tup rv
      cases r1
      obtain ⟨its, rv', p, hz⟩ := I1.tuple (.inl (.inl (kw.sub _ _ h1)))
      refine wpAny_pyIter_tuple (show s1.heap.IsTuple a its.toArray from p) ?_
      refine ⟨s1.heap.objs.size, [s1.heap.objs.size], _, _, w.H, rfl, I1.kept (t' := s1.toks) fun b o e => Heap.get?_push_of_some _ e, turn_tuple a _, ⟨_, Heap.get?_push_size _ rfl, rfl, rfl⟩, fun b hb => ?_, q _ (walkR_tup h1 h2)⟩
      have e : b = s1.heap.objs.size := by simpa using hb
      subst e
      exact I1.fpOk (Nat.le_refl _) (I1.hok.fresh (Nat.le_refl _))
    · rename_i cs
      split at ew
      · cases Option.some.inj ew
        have ev := rep_str rv
        subst ev
        obtain ⟨t, rfl⟩ := r1
        cases ha : (⟨cs.toArray⟩ : Str).cps.all (· < 128)
        · exact wpAny_pyIter_wide ha (pi_one (tk := s1.toks) I1 _ (turn_str _ _ t "str_iterator" (.inr rfl)) ⟨_, Heap.get?_push_size _ rfl, rfl, rfl⟩ (q _ walkR_str))
        · exact wpAny_pyIter_ascii ha (pi_one (tk := s1.toks) I1 _ (turn_str _ _ t "str_ascii_iterator" (.inl rfl)) ⟨_, Heap.get?_push_size _ rfl, rfl, rfl⟩ (q _ walkR_str))
      · cases ew
    · cases ew
theorem small_in {i : Int} (h : small i = true) : -(2 ^ 62) ≤ i ∧ i < 2 ^ 62 := by
  unfold small at h
  simp only [Bool.and_eq_true, decide_eq_true_eq] at h
  obtain ⟨h1, h2⟩ := h
  constructor <;> omega
theorem tA_len {src : Ex} {es : List Expr} (hc : chL src Γ es = true) {σ : L2.St} {H : Hp} {R : List V → Hp → Prop} (h : tA G E C src σ H R) : tA G E C src σ H fun vs H1 => vs.length = es.length ∧ R vs H1 := by
  obtain ⟨w, S, env, b, hw, kw, r, h⟩ := h
  exact ⟨w, S, env, b, hw, kw, r, (evL C src env S).wpb_mono ((evL C src env S).wpb_and h (evL_len src hc)) (fun a b q w' vs l k r => ⟨by rw [r.length]; exact q.2, q.1 w' vs l k r⟩) fun _ _ _ q => q⟩
theorem i_range1 {src : Ex} {tg e : Expr} {p pos : Pos} (s : SC X CX G C E k Γ) (hb : bltB Γ "range" = true) (hc : chL src Γ [e] = true) (ha : PA X [e] (tA G E C src)) : PI X tg (.Call (.Name "range" p) [e] [] pos) (iD G E C .range src) := by
  obtain ⟨h1, h2, h3, h4⟩ := s.blt hb
  have hst := chL_stars hc
  rw [List.all_cons, Bool.and_eq_true] at hst
  refine PI.imp (pi_range1 h1 h2 ha (starOf hst.1)) fun σ H R h => tA_imp (tA_len hc h) fun vs H1 ⟨hl, w, S, b, ds, its, hw, kw, rl, ew, q⟩ => ?_
  subst hw
  unfold walkD at ew
  split at ew <;> try (first | (rename_i hk; cases hk; done) | (cases ew; done))
  · rename_i n hk
    split at ew
    · rename_i hn
      cases Option.some.inj ew
      simp only [RepL] at rl
      obtain ⟨v', vs', e1, rv, e2⟩ := rl
      subst e2
      rw [rep_int rv] at e1
      exact ⟨n, e1, (small_in hn).1, (small_in hn).2, q _ walkR_range⟩
    · cases ew
  · rename_i n m
    rw [rl.length] at hl
    simp at hl
theorem i_range2 {src : Ex} {tg e f : Expr} {p pos : Pos} (s : SC X CX G C E k Γ) (hb : bltB Γ "range" = true) (hc : chL src Γ [e, f] = true) (ha : PA X [e, f] (tA G E C src)) : PI X tg (.Call (.Name "range" p) [e, f] [] pos) (iD G E C .range src) := by
  obtain ⟨h1, h2, h3, h4⟩ := s.blt hb
  have hst := chL_stars hc
  rw [List.all_cons, List.all_cons, Bool.and_eq_true, Bool.and_eq_true] at hst
  refine PI.imp (pi_range2 h1 h2 ha (by rw [starOf hst.1, starOf hst.2.1]; rfl) (starOf hst.2.1)) fun σ H R h => tA_imp (tA_len hc h) fun vs H1 ⟨hl, w, S, b, ds, its, hw, kw, rl, ew, q⟩ => ?_
  subst hw
  unfold walkD at ew
  split at ew <;> try (first | (rename_i hk; cases hk; done) | (cases ew; done))
  · rename_i n
    rw [rl.length] at hl
    simp at hl
  · rename_i n m hk
    split at ew
    · rename_i hn
      rw [Bool.and_eq_true] at hn
      cases Option.some.inj ew
      simp only [RepL] at rl
      obtain ⟨v', vs', e1, rv, v2, vs2, e2, rv2, e3⟩ := rl
      subst e3
      subst e2
      rw [rep_int rv, rep_int rv2] at e1
      exact ⟨n, m, e1, ⟨(small_in hn.1).1, (small_in hn.1).2, (small_in hn.2).1, (small_in hn.2).2⟩, q _ walkR_range⟩
    · cases ew
theorem isTup_of {tg : Expr} (h : isTup tg = true) : ∃ es k p, tg = .Tuple es k p := by
  cases tg <;> first | exact ⟨_, _, _, rfl⟩ | cases h
theorem i_enum {src : Ex} {tg e : Expr} {p pos : Pos} (s : SC X CX G C E k Γ) (hb : bltB Γ "enumerate" = true) (hc : chL src Γ [e] = true) (ha : PA X [e] (tA G E C src)) (ht : isTup tg = true) : PI X tg (.Call (.Name "enumerate" p) [e] [] pos) (iD G E C .enum src) := by
  obtain ⟨h1, h2, h3, h4⟩ := s.blt hb
  obtain ⟨es, kk, tp, rfl⟩ := isTup_of ht
  have hst := chL_stars hc
  rw [List.all_cons, Bool.and_eq_true] at hst
  refine PI.imp (pi_enum h1 h2 ha (starOf hst.1)) fun σ H R h => tA_imp h fun vs H1 ⟨w, S, b, ds, its, hw, kw, rl, ew, q⟩ => ?_
  subst hw
  unfold walkD at ew
  split at ew <;> try (first | (rename_i hk; cases hk; done) | (cases ew; done))
  · rename_i ds
    cases Option.some.inj ew
    simp only [RepL] at rl
    obtain ⟨v', vs', e1, rv, e2⟩ := rl
    subst e2
    obtain ⟨a, xs, rfl, h1, h2⟩ := rep_lst rv
    exact ⟨a, xs, e1, .inl (.inl (kw.sub _ _ h1)), q _ (walkR_enum h1 h2)⟩
theorem i_zip {src : Ex} {tg e f : Expr} {p pos : Pos} (s : SC X CX G C E k Γ) (hb : bltB Γ "zip" = true) (hc : chL src Γ [e, f] = true) (ha : PA X [e, f] (tA G E C src)) (ht : isTup tg = true) : PI X tg (.Call (.Name "zip" p) [e, f] [] pos) (iD G E C .zip src) := by
  obtain ⟨h1, h2, h3, h4⟩ := s.blt hb
  obtain ⟨es, kk, tp, rfl⟩ := isTup_of ht
  have hst := chL_stars hc
  rw [List.all_cons, Bool.and_eq_true] at hst
  refine PI.imp (pi_zip h1 h2 ha (starOf hst.1) (noStars hst.2)) fun σ H R h => tA_imp h fun vs H1 ⟨w, S, b, ds, its, hw, kw, rl, ew, q⟩ => ?_
  subst hw
  unfold walkD at ew
  split at ew <;> try (first | (rename_i hk; cases hk; done) | (cases ew; done))
  · rename_i ds es
    cases Option.some.inj ew
    simp only [RepL] at rl
    obtain ⟨v', vs', e1, rv, v2, vs2, e2, rv2, e3⟩ := rl
    subst e3
    subst e2
    obtain ⟨a, xs, rfl, h1, h2⟩ := rep_lst rv
    obtain ⟨b', ys, rfl, h3, h4⟩ := rep_lst rv2
    exact ⟨a, b', xs, ys, e1, .inl (.inl (kw.sub _ _ h1)), .inl (.inl (kw.sub _ _ h3)), q _ (walkR_zip h1 h2 h3 h4)⟩
end
end RL
end

section
set_option Elab.async false
set_option linter.all false
set_option maxHeartbeats 4000000
/-! RL15: comprehensions. Own work. -/
namespace RL
open PySem PySem.Spec PyProof.Rows L2
section
variable {G : Gam} {w w0 w1 w2 : Wd} {S : Sto} {b : Nat} {a : Addr} {o : HO}
/-- a thing at the side: in the heap, but neither tracked nor standing still -/
def Wd.side (w : Wd) (a : Addr) (o : HO) : Wd := { w with H := upd w.H a o }
def Wd.er (w : Wd) (a : Addr) : Wd := { w with H := fun x => if x = a then none else w.H x }
theorem er_at : (w.er a).H a = none := by
  show (if a = a then none else _) = none
  rw [if_pos rfl]
theorem er_ne {x : Addr} (h : x ≠ a) : (w.er a).H x = w.H x := by
  show (if x = a then none else _) = _
  rw [if_neg h]
theorem er_upd (h : w.H a = some o) : upd (w.er a).H a o = w.H := by
  funext x
  by_cases hx : x = a
  · subst hx
    rw [upd_same, h]
  · rw [upd_ne hx, er_ne hx]
theorem er_upd2 {o' : HO} : upd (w.er a).H a o' = upd w.H a o' := by
  funext x
  by_cases hx : x = a
  · subst hx
    rw [upd_same, upd_same]
  · rw [upd_ne hx, upd_ne hx, er_ne hx]
theorem ok_side (k : Ok G w S b) (h : w.H a = none) : Ok G (w.side a o) S b := by
  have hin := k.notin h
  refine ⟨k.len, fun x u e => ?_, k.nd, fun i x ob e1 e2 => ?_, k.off, fun x hx => ?_, ?_, k.pB, k.pρ⟩
  · show upd w.H a o x = some u
    rw [upd_ne (ne_of_none (k.sub x u e) h)]
    exact k.sub x u e
  · have hx : x ≠ a := fun z => hin (by rw [← z]; exact List.mem_of_getElem? e1)
    exact ObRep.mono (w := w) rfl (Sub.refl _) (upd_ne hx) (k.obs i x ob e1 e2)
  · obtain ⟨u, e⟩ := k.tr x hx
    refine ⟨u, ?_⟩
    show upd w.H a o x = some u
    rw [upd_ne (ne_of_none e h)]
    exact e
  · intro q hq
    obtain ⟨c, ns, t, g, h1, h2, h3⟩ := k.pen q hq
    refine ⟨c, ns, t, g, ?_, h2, h3⟩
    show upd w.H a o q = _
    rw [upd_ne (k.neq hq h)]
    exact h1
theorem ok_er (k : Ok G w S b) (hr : a ∉ w.ρ) (hB : w.B a = none) (hp : w.p ≠ some a) : Ok G (w.er a) S b := by
  have nx : ∀ {x : Addr}, x ∈ w.ρ → x ≠ a := fun {x} hx z => hr (by rw [← z]; exact hx)
  refine ⟨k.len, fun x u e => ?_, k.nd, fun i x ob e1 e2 => ?_, k.off, fun x hx => ?_, ?_, k.pB, k.pρ⟩
  · have hx : x ≠ a := fun z => by
      have e : w.B x = some u := e
      rw [z, hB] at e
      cases e
    rw [er_ne hx]
    exact k.sub x u e
  · exact ObRep.mono (w := w) rfl (Sub.refl _) (er_ne (nx (List.mem_of_getElem? e1))) (k.obs i x ob e1 e2)
  · obtain ⟨u, e⟩ := k.tr x hx
    exact ⟨u, by rw [er_ne (nx hx)]; exact e⟩
  · intro q hq
    obtain ⟨c, ns, t, g, h1, h2, h3⟩ := k.pen q hq
    exact ⟨c, ns, t, g, by rw [er_ne (fun e => hp (by rw [← e]; exact hq))]; exact h1, h2, h3⟩
theorem le_side (l : Le w1 w) (h : w1.H a = none) : Le w1 (w.side a o) := by
  have nx : ∀ {x : Addr} {u : HO}, w1.H x = some u → x ≠ a := fun {x u} e z => by
    rw [z, h] at e
    cases e
  refine ⟨l.p, l.ρ, l.B, l.Bn, fun x u e h1 h2 => ?_, fun x u e => ?_⟩
  · show upd w.H a o x = some u
    rw [upd_ne (nx e)]
    exact l.H x u e h1 h2
  · obtain ⟨u', e'⟩ := l.T x u e
    refine ⟨u', ?_⟩
    show upd w.H a o x = some u'
    rw [upd_ne (nx e)]
    exact e'
theorem le_er (l : Le w1 w) (h : w1.H a = none) : Le w1 (w.er a) := by
  have nx : ∀ {x : Addr} {u : HO}, w1.H x = some u → x ≠ a := fun {x u} e z => by
    rw [z, h] at e
    cases e
  refine ⟨l.p, l.ρ, l.B, l.Bn, fun x u e h1 h2 => ?_, fun x u e => ?_⟩
  · rw [er_ne (nx e)]
    exact l.H x u e h1 h2
  · obtain ⟨u', e'⟩ := l.T x u e
    exact ⟨u', by rw [er_ne (nx e)]; exact e'⟩
/-- the thing at the side is left as it is -/
theorem side_out (k : Ok G w S b) (h : w.H a = none) (l : Le (w.side a o) w2) : w2.H a = some o ∧ a ∉ w2.ρ ∧ w2.B a = none ∧ w2.p ≠ some a := by
  have h0 : (w.side a o).H a = some o := upd_same
  refine ⟨l.H a o h0 (k.notin h) (k.nep h), fun hm => ?_, ?_, ?_⟩
  · obtain ⟨m, e, n⟩ := l.ρ
    rw [e] at hm
    rcases List.mem_append.mp hm with hm | hm
    · exact k.notin h hm
    · have := n a hm
      rw [h0] at this
      cases this
  · cases q : w2.B a with
    | none => rfl
    | some u =>
      rcases l.Bn a u q with z | z | z
      · have z : w.B a = some u := z
        rw [k.free h] at z
        cases z
      · rw [h0] at z
        cases z
      · exact absurd z (k.notin h)
  · rw [l.p]
    exact k.nep h
end

section
variable {G : Gam} {C : Calls} {E : XK}
/-- a test's reading -/
theorem tT_bndP {α : Type} {P : Wd → α → Nat → Prop} (hP : ∀ w w1 a b, Le w w1 → P w a b → P w1 a b) {a : Ex} {σ : L2.St} {env : EnvD} {w : Wd} {S : Sto} {b : Nat} {kk : Bool → Sto → M α} {R : Bool → Hp → Prop} (k : Ok G w S b) (r : RepE G w env σ)
    (h : ((evE C a env S).bnd fun x => M.opt (rdW x.1 x.2) fun u => M.opt (truD u) fun t => kk t x.2).wpb b (P w) (EX G E w))
    (go : ∀ t S1 b1 w1, Le w w1 → Ok G w1 S1 b1 → RepE G w1 env σ → (kk t S1).wpb b1 (P w1) (EX G E w1) → R t w1.H) : tT G E C a σ w.H R := by
  refine ⟨w, S, env, b, rfl, k, r, ?_⟩
  unfold tstE
  rw [M.wpb_bnd] at h ⊢
  refine (evE C a env S).wpb_mono h (fun x b1 h1 => ?_) fun _ _ _ q => q
  obtain ⟨u, eu, h1⟩ := wpb_opt.mp h1
  obtain ⟨z, ez, h1⟩ := wpb_opt.mp h1
  refine wpb_opt.mpr ⟨u, eu, wpb_opt.mpr ⟨z, ez, ?_⟩⟩
  intro w1 l1 k1
  exact go z x.2 b1 w1 l1 k1 (r.le l1) (wle (Q1 := P) l1 (fun _ _ q => hP _ _ _ _ l1 q) h1)
/-- one turn's work -/
def elF (C : Calls) (cond elt : Ex) : EnvD → Sto → M (Option D × Sto) := fun env' S' => (evE C cond env' S').bnd fun c => M.opt (rdW c.1 c.2) fun u => M.opt (truD u) fun t => if t then (evE C elt env' c.2).bnd fun y => M.opt (datW y.1) fun v => .ret (some v, y.2) else .ret (none, c.2)
theorem comp_walk {K : PySem.W.Frag} {w1 : Wd} {S1 : Sto} {b1 : Nat} {J : It} {its : List D} {env : EnvD} {σ : L2.St} {pt : Pat} {cond elt : Ex} {vs : List Nat} {D1 : Addr} {Qd : Hp → Prop} {tt : TT} {Ee : Nat → List D → Nat → Prop}
    (hv : ∀ i, i ∈ vs ↔ i ∈ pt.slots) (htt : ∀ σ H R, tT G E0 C cond σ H R → tt σ H R)
    (wk : WalkR G w1 J its) (k1 : Ok G w1 S1 b1) (re : RepE G w1 env σ) (hD : w1.H D1 = none)
    (h : (compL (elF C cond elt) pt env its [] S1).wpb b1 (fun r b' => ∀ w', Le w1 w' → Ok G w' r.2 b' → w'.H D1 = none → ∀ xs, RepL G w'.p w'.B r.1 xs → Qd (upd w'.H D1 (.lst xs))) Ee) :
    ∃ W : Nat → Nat → Hp → Prop, (∃ m, W 0 m (upd w1.H D1 (.lst []))) ∧ ∀ i m H, W i m H →
      (J.stop i H ∧ Qd H) ∨ (J.go i H ∧ ∃ Nx : Hp → Prop, (∀ H', Nx H' → ∃ m', m' < m ∧ W (i + 1) m' H') ∧ ∀ x H', J.yld i H x H' → gP K pt x (wipe σ vs) H' fun σ2 H2 => wipe σ2 vs = wipe σ vs ∧ tt σ2 H2 fun b H3 =>
        if b = true then tE G E0 C elt σ2 H3 fun y H4 => ∃ acc, H4 D1 = some (.lst acc) ∧ acc.length < sizeLine ∧ Nx (upd H4 D1 (.lst (acc ++ [y]))) else Nx H3) := by
  let Qf : List D × Sto → Nat → Prop := fun r b' => ∀ w', Le w1 w' → Ok G w' r.2 b' → w'.H D1 = none → ∀ xs, RepL G w'.p w'.B r.1 xs → Qd (upd w'.H D1 (.lst xs))
  let Pv : Nat → Hp → Prop := fun i H => i ≤ its.length ∧ ∃ w S b acc xs, Le w1 w ∧ w.H D1 = none ∧ Ok G w S b ∧ H = upd w.H D1 (.lst xs) ∧ RepL G w.p w.B acc xs ∧ (compL (elF C cond elt) pt env (its.drop i) acc S).wpb b Qf Ee
  refine ⟨fun i m H => m = its.length - i ∧ Pv i H, ⟨its.length, by simp, Nat.zero_le _, w1, S1, b1, [], [], Le.refl _, hD, k1, rfl, by simp only [RepL], by simpa using h⟩, ?_⟩
  rintro i m H ⟨rfl, hi, w, S, b, acc, xs, l, hn, kw, rfl, ra, hw⟩
  have ks := ok_side (o := .lst xs) kw hn
  have ls := le_side (o := .lst xs) l hD
  by_cases hlt : i < its.length
  · refine .inr ⟨wk.goes i (w.side D1 (.lst xs)) S b ls ks hlt, Pv (i + 1), fun H' p' => ⟨its.length - (i + 1), by omega, rfl, p'⟩, fun x H' y => ?_⟩
    obtain ⟨d, ed⟩ : ∃ d, its[i]? = some d := ⟨_, List.getElem?_eq_getElem hlt⟩
    obtain ⟨w2, l2, k2, eH, rx⟩ := wk.yields i (w.side D1 (.lst xs)) S b x H' d ls ks ed y
    subst eH
    have edrop : its.drop i = d :: its.drop (i + 1) := by
      rw [List.drop_eq_getElem_cons hlt]
      congr 1
      rw [List.getElem?_eq_getElem hlt] at ed
      exact Option.some.inj ed
    rw [edrop] at hw
    simp only [compL] at hw
    cases hb : bindP pt d env with
    | none =>
      rw [hb] at hw
      exact hw.elim
    | some env' =>
      rw [hb] at hw
      have l12 := ls.trans l2
      refine gP_ok pt hb ((RepU.wiped re vs).mono (fun i h => h) |> fun q => ⟨q.len, fun i x hu e => (q.at_ i x hu e).imp fun v z => ⟨z.1, l12.rep z.2⟩⟩) k2.sub rx fun σ2 bd => ?_
      refine ⟨?_, htt _ _ _ ?_⟩
      · rw [← wipe_wipe σ vs]
        exact wipe_ext bd.len fun j hj => bd.same j fun hm => hj ((hv j).mpr hm)
      · have re2 : RepE G w2 env' σ2 := bd.rep.e fun j hj => hj.2 ((hv j).mp hj.1)
        have hw : ((elF C cond elt env' S).noexc.bnd fun r => match r.1 with
          | some y => if acc.length < lim then compL (elF C cond elt) pt env (its.drop (i + 1)) (acc ++ [y]) r.2 else .stuck
          | none => compL (elF C cond elt) pt env (its.drop (i + 1)) acc r.2).wpb b Qf Ee := hw
        rw [M.wpb_bnd] at hw
        have hw := M.wpb_noexc _ hw (E' := EX G E0 w2)
        have hw : (elF C cond elt env' S).wpb b (fun r b' => (match r.1 with
          | some y => if acc.length < lim then compL (elF C cond elt) pt env (its.drop (i + 1)) (acc ++ [y]) r.2 else .stuck
          | none => compL (elF C cond elt) pt env (its.drop (i + 1)) acc r.2 : M (List D × Sto)).wpb b' Qf Ee) (EX G E0 w2) := hw
        refine tT_bndP (kk := fun t S' => if t then (evE C elt env' S').bnd fun y => M.opt (datW y.1) fun v => .ret (some v, y.2) else .ret (none, S')) (P := fun _ (r : Option D × Sto) b' => (match r.1 with
          | some y => if acc.length < lim then compL (elF C cond elt) pt env (its.drop (i + 1)) (acc ++ [y]) r.2 else .stuck
          | none => compL (elF C cond elt) pt env (its.drop (i + 1)) acc r.2 : M (List D × Sto)).wpb b' Qf Ee)
          (fun _ _ _ _ _ q => q) k2 re2 hw fun t S3 b3 w3 l3 k3 re3 h3 => ?_
        have out3 := side_out kw hn (l2.trans l3)
        cases t with
        | false =>
          rw [if_neg Bool.false_ne_true] at h3
          show (if false = true then _ else _)
          rw [if_neg Bool.false_ne_true]
          have l13 := l12.trans l3
          refine ⟨hlt, w3.er D1, S3, b3, acc, xs, le_er l13 hD, er_at, ok_er k3 out3.2.1 out3.2.2.1 out3.2.2.2, (er_upd out3.1).symm, ?_, h3⟩
          exact (l2.trans l3).repL (w := w.side D1 (.lst xs)) ra
        | true =>
          rw [if_pos rfl] at h3
          show (if true = true then _ else _)
          rw [if_pos rfl]
          refine tE_bndP (P := fun _ (r : Option D × Sto) b' => (match r.1 with
          | some y => if acc.length < lim then compL (elF C cond elt) pt env (its.drop (i + 1)) (acc ++ [y]) r.2 else .stuck
          | none => compL (elF C cond elt) pt env (its.drop (i + 1)) acc r.2 : M (List D × Sto)).wpb b' Qf Ee)
            (fun _ _ _ _ _ q => q) k3 re3 h3 fun y b4 w4 v4 l4 k4 r4 re4 h4 => ?_
          obtain ⟨v, ev, h4⟩ := wpb_opt.mp h4
          have rv := dat_ok r4 ev
          have out4 := side_out kw hn ((l2.trans l3).trans l4)
          have h4 : (if acc.length < lim then compL (elF C cond elt) pt env (its.drop (i + 1)) (acc ++ [v]) y.2 else .stuck : M (List D × Sto)).wpb b4 Qf Ee := h4
          have ra4 : RepL G w4.p w4.B acc xs := ((l2.trans l3).trans l4).repL (w := w.side D1 (.lst xs)) ra
          split at h4
          · rename_i hl
            refine ⟨xs, out4.1, by rw [ra.length, ← lim_eq]; exact hl, hlt, w4.er D1, y.2, b4, acc ++ [v], xs ++ [v4], le_er ((l12.trans l3).trans l4) hD, er_at, ok_er k4 out4.2.1 out4.2.2.1 out4.2.2.2, er_upd2.symm, ?_, h4⟩
            exact ra4.app (ds := acc) (es := [v]) ⟨v4, [], rfl, rv, rfl⟩
          · exact h4.elim
  · have ei : i = its.length := by omega
    subst ei
    rw [List.drop_length] at hw
    exact .inl ⟨wk.stops (w.side D1 (.lst xs)) S b ls ks, hw w l kw hn xs ra⟩
end

section
variable {X : Cx} {CX : CXT} {G : Gam} {C : Calls} {E : XK} {k : Nat} {Γ : Nm}
theorem SC.blk (s : SC X CX G C E k Γ) (st : Shared) (H : Hp) (scope : Scope) (cl : List (Str × Addr)) (c : Addr) (fp : List Addr) : SC (X.blk st H scope (compEnvC scope cl c X.env) fp) CX G C E0 k (Γ.blk scope) where
  lk := ⟨s.lk.fn, s.lk.drw, s.lk.gl, s.lk.blt⟩
  N := s.N
  sc := by
    show relS scope X.env.scope = relS scope Γ.sc
    rw [s.sc]
  st := fun x hx => by
    show (scope.names.lookup x == some .cell) = true
    have hx : x ∈ (scope.names.filter fun y => y.2 == .cell && decide (scope.names.lookup y.1 = some .cell)).map (·.1) := hx
    rw [List.mem_map] at hx
    obtain ⟨y, hy, e⟩ := hx
    rw [List.mem_filter] at hy
    have h2 := hy.2
    rw [Bool.and_eq_true, decide_eq_true_eq] at h2
    rw [← e, h2.2]
    rfl
  calm := s.calm
  nd := s.nd
  gd := s.gd
  room := s.room
  pas := s.pas0 _
  own := PassesOwn.never
  pas0 := s.pas0
theorem notSet_ok {e : Expr} (h : notSet e = true) : ∀ (env : Env) (x : Value), foldedSetIterable e env x = pure x := fun env x => by
  cases e <;> first | rfl | cases h
/-- what the tests of a comprehension say -/
theorem c_comp {m chk : Bool} {pt : Pat} {wk : Wk} {src cond elt : Ex} {e tg it : Expr} {ifs : List Expr} {scope : Scope} {pos : Pos} (s : SC X CX G C E k Γ) (hs : notSet it = true) (hb : blkC Γ.N Γ.sc scope (pt.own Γ.N) = true) (hp : chP pt (Γ.blk scope) tg = true)
    (hi : PI X tg it (iD G E C wk src)) (tt : TT) (htt : ∀ σ H R, tT G E0 C cond σ H R → tt σ H R)
    (ht : ∀ (st : Shared) (H : Hp) (c : Addr) (cl : List (Str × Addr)) (fp : List Addr), PTs (X.blk st H scope (compEnvC scope cl c X.env) fp) ifs tt)
    (he : ∀ (st : Shared) (H : Hp) (c : Addr) (cl : List (Str × Addr)) (fp : List Addr), PE (X.blk st H scope (compEnvC scope cl c X.env) fp) e (tE G E0 C elt)) :
    (∀ σ H Q, tE G E C (.comp m chk pt wk src cond elt) σ H Q → tLc (iD G E C wk src) (gP X.K pt) tt (tE G E0 C elt) ((pt.own Γ.N).map (·.2)) σ H Q) ∧
    PE X (.ListComp e [⟨tg, it, ifs, 0⟩] scope pos) (tE G E C (.comp m chk pt wk src cond elt)) := by
  have hown := own_slots (N := Γ.N) (chP_slots (Γ := Γ.blk scope) pt hp)
  have main : ∀ σ H Q, tE G E C (.comp m chk pt wk src cond elt) σ H Q → tLc (iD G E C wk src) (gP X.K pt) tt (tE G E0 C elt) ((pt.own Γ.N).map (·.2)) σ H Q := fun σ H Q ⟨w, S, env, b0, hw, kw, r, h⟩ => by
    subst hw
    simp only [evE] at h
    refine tA_bndP (P := fun w => Go G w Q) (fun _ _ _ _ l q => Go.le l q) kw r h fun x b1 w1 vs l1 k1 r1 re1 h1 => ?_
    obtain ⟨ds, eds, h1⟩ := wpb_opt.mp h1
    obtain ⟨its, eits, h1⟩ := wpb_opt.mp h1
    refine ⟨w1, x.2, b1, ds, its, rfl, k1, RepWs.dat eds r1, eits, fun J wk' D1 hD => ?_⟩
    split at h1
    · rw [M.wpb_bnd] at h1
      refine comp_walk (K := X.K) (Ee := EX G E w1) hown htt wk' k1 re1 hD ((compL (elF C cond elt) pt env its [] x.2).wpb_mono h1 (fun r b' q w' l' k' hn xs rl => ?_) fun _ _ _ q => q)
      cases m with
      | false =>
        rw [if_neg Bool.false_ne_true] at q
        have q : Go G w1 Q (.d (.lst r.1), r.2) b' := q
        refine q (w'.still D1 (.lst xs)) (.ref D1) (l'.trans (le_still k' hn)) (ok_still k' hn) ?_
        show RepV G w'.p (upd w'.B D1 (.lst xs)) (.lst r.1) (.ref D1)
        simp only [RepV]
        exact ⟨D1, xs, rfl, upd_same, RepL.mono (sub_upd (k'.free hn)) _ _ rl⟩
      | true =>
        rw [if_pos rfl] at q
        have q : Go G w1 Q (.r r.2.length, r.2 ++ [.lst r.1]) b' := q
        refine q (w'.more D1 xs) (.ref D1) (l'.trans (le_more k' hn)) (ok_more k' hn rl) ⟨D1, ?_, rfl⟩
        show (w'.ρ ++ [D1])[r.2.length]? = some D1
        rw [List.getElem?_append_right (by rw [k'.len]; exact Nat.le_refl _), k'.len, Nat.sub_self]
        rfl
    · exact h1.elim
  refine ⟨main, PE.imp (pe_lc s.calm s.nd hi (blkOk_by (by rw [s.N, s.sc]; exact hb)) (fun st H c cl fp => c_pat (s.blk st H scope cl c fp) pt hp) ht he (notSet_ok hs X.env)) main⟩
end
end RL
end

section
set_option Elab.async false
set_option linter.all false
set_option maxHeartbeats 8000000
/-! RL16: every expression means what the interpreter says. Own work. -/
namespace RL
open PySem PySem.Spec PyProof.Rows L2
section
variable {CX : CXT} {G : Gam} {C : Calls} {k : Nat}
structure Snd (CX : CXT) (G : Gam) (C : Calls) (k : Nat) (a : Ex) : Prop where
  e : ∀ {X : Cx} {E : XK} {Γ : Nm} {e : Expr}, SC X CX G C E k Γ → chE a Γ e = true → PE X e (tE G E C a)
  t : ∀ {X : Cx} {E : XK} {Γ : Nm} {e : Expr}, SC X CX G C E k Γ → chE a Γ e = true → notIf e = true → PT X e (tT G E C a)
  w : ∀ {X : Cx} {E : XK} {Γ : Nm} {op : BoolOp} {vs : List Expr} {p : Pos}, SC X CX G C E k Γ → chE a Γ (.BoolOp op vs p) = true → PW X (.BoolOp op vs p) (tT G E C a)
  l : ∀ {X : Cx} {E : XK} {Γ : Nm} {es : List Expr}, SC X CX G C E k Γ → chL a Γ es = true → PA X es (tA G E C a)
  k : ∀ {X : Cx} {E : XK} {Γ : Nm} {kws : List Keyword}, SC X CX G C E k Γ → chL a Γ (kws.map (·.value)) = true → PK X kws (tA G E C a)
/-- code that is no list -/
theorem Snd.of {a : Ex} (he : ∀ {X : Cx} {E : XK} {Γ : Nm} {e : Expr}, SC X CX G C E k Γ → chE a Γ e = true → PE X e (tE G E C a))
    (hp : ∀ {Γ : Nm} {e : Expr}, chE a Γ e = true → plainT e = true) (hl : ∀ {Γ : Nm} {es : List Expr}, chL a Γ es = true → False) : Snd CX G C k a :=
  ⟨he, fun s h _ => t_val (he s h) (hp h), fun s h => absurd (hp h) Bool.false_ne_true, fun s h => (hl h).elim, fun s h => (hl h).elim⟩
/-- .. and whose truth is told apart -/
theorem Snd.ofT {a : Ex} (he : ∀ {X : Cx} {E : XK} {Γ : Nm} {e : Expr}, SC X CX G C E k Γ → chE a Γ e = true → PE X e (tE G E C a))
    (ht : ∀ {X : Cx} {E : XK} {Γ : Nm} {e : Expr}, SC X CX G C E k Γ → chE a Γ e = true → notIf e = true → PT X e (tT G E C a))
    (hw : ∀ {X : Cx} {E : XK} {Γ : Nm} {op : BoolOp} {vs : List Expr} {p : Pos}, SC X CX G C E k Γ → chE a Γ (.BoolOp op vs p) = true → PW X (.BoolOp op vs p) (tT G E C a)) (hl : ∀ {Γ : Nm} {es : List Expr}, chL a Γ es = true → False) : Snd CX G C k a :=
  ⟨he, ht, hw, fun s h => (hl h).elim, fun s h => (hl h).elim⟩

theorem inv_var {i : Nat} {Γ : Nm} {e : Expr} (h : chE (.var i) Γ e = true) : ∃ x p, e = .Name x p ∧ Γ.N[i]? = some x ∧ visB Γ.sc x = true ∧ okName x = true := by
  cases e
  case Name x p =>
    simp only [chE, Bool.and_eq_true, decide_eq_true_eq] at h
    exact ⟨x, p, rfl, h.1.1, h.1.2, h.2⟩
  all_goals (simp only [chE] at h; cases h; done)
theorem inv_dat {d : D} {Γ : Nm} {e : Expr} (h : chE (.dat d) Γ e = true) : ∃ c n p, e = .Constant c n p ∧ datB d c = true := by
  cases e
  case Constant c n p =>
    simp only [chE] at h
    exact ⟨c, n, p, rfl, h⟩
  all_goals (simp only [chE] at h; cases h; done)
theorem inv_glb {y : Str} {d : D} {Γ : Nm} {e : Expr} (h : chE (.glb y d) Γ e = true) : ∃ p, e = .Name y p ∧ glB Γ.sc y = true ∧ okName y = true ∧ (match Γ.gl.lookup y with
    | some d' => sameB d d'
    | none => false) = true := by
  cases e
  case Name x p =>
    simp only [chE, Bool.and_eq_true, decide_eq_true_eq] at h
    obtain ⟨⟨⟨h1, h2⟩, h3⟩, h4⟩ := h
    subst h1
    exact ⟨p, rfl, h2, h3, h4⟩
  all_goals (simp only [chE] at h; cases h; done)
theorem inv_bin {o : BinO} {a b : Ex} {Γ : Nm} {e : Expr} (h : chE (.bin o a b) Γ e = true) : ∃ x y p, e = .BinOp x (opB o) y p ∧ chE a Γ x = true ∧ chE b Γ y = true := by
  cases e
  case BinOp x op y p =>
    simp only [chE, Bool.and_eq_true, decide_eq_true_eq] at h
    exact ⟨x, y, p, by rw [h.1.1], h.1.2, h.2⟩
  all_goals (simp only [chE] at h; cases h; done)
theorem inv_neg {a : Ex} {Γ : Nm} {e : Expr} (h : chE (.neg a) Γ e = true) : ∃ x p, e = .UnaryOp .USub x p ∧ chE a Γ x = true := by
  cases e
  case UnaryOp op x p =>
    cases op
    case USub =>
      simp only [chE] at h
      exact ⟨x, p, rfl, h⟩
    all_goals (simp only [chE] at h; cases h; done)
  all_goals (simp only [chE] at h; cases h; done)
theorem inv_not {a : Ex} {Γ : Nm} {e : Expr} (h : chE (.not a) Γ e = true) : ∃ x p, e = .UnaryOp .Not x p ∧ chE a Γ x = true ∧ notIf x = true := by
  cases e
  case UnaryOp op x p =>
    cases op
    case Not =>
      simp only [chE, Bool.and_eq_true] at h
      exact ⟨x, p, rfl, h.1, h.2⟩
    all_goals (simp only [chE] at h; cases h; done)
  all_goals (simp only [chE] at h; cases h; done)
theorem inv_cmp {o : CmpO} {a b : Ex} {Γ : Nm} {e : Expr} (h : chE (.cmp o a b) Γ e = true) : ∃ x y p, e = .Compare x [opC o] [y] p ∧ chE a Γ x = true ∧ chE b Γ y = true ∧ behindInMarks (opC o) y = false := by
  cases e
  case Compare x ops ys p =>
    rcases ops with _ | ⟨op, _ | ⟨op2, ops⟩⟩ <;> rcases ys with _ | ⟨y, _ | ⟨y2, ys⟩⟩ <;> first
      | (simp only [chE, Bool.and_eq_true, decide_eq_true_eq, Bool.not_eq_true'] at h
         obtain ⟨⟨⟨h1, h2⟩, h3⟩, h4⟩ := h
         subst h1
         exact ⟨x, y, p, rfl, h2, h3, h4⟩)
      | (simp only [chE] at h; cases h; done)
  all_goals (simp only [chE] at h; cases h; done)
theorem inv_chain {o o' : CmpO} {a b c : Ex} {Γ : Nm} {e : Expr} (h : chE (.chain o o' a b c) Γ e = true) : ∃ x y z p, e = .Compare x [opC o, opC o'] [y, z] p ∧ chE a Γ x = true ∧ chE b Γ y = true ∧ chE c Γ z = true ∧ lastMarks [opC o, opC o'] [y, z] = false := by
  cases e
  case Compare x ops ys p =>
    rcases ops with _ | ⟨op, _ | ⟨op2, _ | ⟨op3, ops⟩⟩⟩ <;> rcases ys with _ | ⟨y, _ | ⟨y2, _ | ⟨y3, ys⟩⟩⟩ <;> first
      | (simp only [chE, Bool.and_eq_true, decide_eq_true_eq, Bool.not_eq_true'] at h
         obtain ⟨⟨⟨⟨⟨h1, h2⟩, h3⟩, h4⟩, h5⟩, h6⟩ := h
         subst h1 h2
         exact ⟨x, y, y2, p, rfl, h3, h4, h5, h6⟩)
      | (simp only [chE] at h; cases h; done)
  all_goals (simp only [chE] at h; cases h; done)
theorem inv_and {a b : Ex} {Γ : Nm} {e : Expr} (h : chE (.and a b) Γ e = true) : ∃ x y r p, e = .BoolOp .And (x :: y :: r) p ∧ chE a Γ x = true ∧ notIf x = true ∧ notIf y = true ∧ ((r = [] ∧ chE b Γ y = true) ∨ (r ≠ [] ∧ chE b Γ (.BoolOp .And (y :: r) p) = true)) := by
  cases e
  case BoolOp op vs p =>
    cases op
    case And =>
      rcases vs with _ | ⟨x, _ | ⟨y, r⟩⟩
      · simp only [chE] at h; cases h
      · simp only [chE] at h; cases h
      · cases r with
        | nil =>
          simp only [chE, Bool.and_eq_true] at h
          exact ⟨x, y, [], p, rfl, h.1.1.1, h.1.1.2, h.1.2, .inl ⟨rfl, h.2⟩⟩
        | cons z r =>
          simp only [chE, Bool.and_eq_true] at h
          exact ⟨x, y, z :: r, p, rfl, h.1.1.1, h.1.1.2, h.1.2, .inr ⟨List.cons_ne_nil _ _, h.2⟩⟩
    all_goals (simp only [chE] at h; cases h; done)
  all_goals (simp only [chE] at h; cases h; done)
theorem inv_or {a b : Ex} {Γ : Nm} {e : Expr} (h : chE (.or a b) Γ e = true) : ∃ x y r p, e = .BoolOp .Or (x :: y :: r) p ∧ chE a Γ x = true ∧ notIf x = true ∧ notIf y = true ∧ ((r = [] ∧ chE b Γ y = true) ∨ (r ≠ [] ∧ chE b Γ (.BoolOp .Or (y :: r) p) = true)) := by
  cases e
  case BoolOp op vs p =>
    cases op
    case Or =>
      rcases vs with _ | ⟨x, _ | ⟨y, r⟩⟩
      · simp only [chE] at h; cases h
      · simp only [chE] at h; cases h
      · cases r with
        | nil =>
          simp only [chE, Bool.and_eq_true] at h
          exact ⟨x, y, [], p, rfl, h.1.1.1, h.1.1.2, h.1.2, .inl ⟨rfl, h.2⟩⟩
        | cons z r =>
          simp only [chE, Bool.and_eq_true] at h
          exact ⟨x, y, z :: r, p, rfl, h.1.1.1, h.1.1.2, h.1.2, .inr ⟨List.cons_ne_nil _ _, h.2⟩⟩
    all_goals (simp only [chE] at h; cases h; done)
  all_goals (simp only [chE] at h; cases h; done)
theorem inv_ite {c a b : Ex} {Γ : Nm} {e : Expr} (h : chE (.ite c a b) Γ e = true) : ∃ x y z p, e = .IfExp x y z p ∧ chE c Γ x = true ∧ notIf x = true ∧ chE a Γ y = true ∧ chE b Γ z = true := by
  cases e
  case IfExp x y z p =>
    simp only [chE, Bool.and_eq_true] at h
    exact ⟨x, y, z, p, rfl, h.1.1.1, h.1.1.2, h.1.2, h.2⟩
  all_goals (simp only [chE] at h; cases h; done)
theorem inv_call {f : Nat} {as : Ex} {Γ : Nm} {e : Expr} (h : chE (.call f as) Γ e = true) : ∃ x p es pos, e = .Call (.Name x p) es [] pos ∧ glB Γ.sc x = true ∧ okName x = true ∧ (x, f, es.length) ∈ Γ.fns ∧ chL as Γ es = true := by
  cases e
  case Call fn es kws pos =>
    cases fn
    case Name x p =>
      cases kws with
      | nil =>
        simp only [chE, Bool.and_eq_true, decide_eq_true_eq] at h
        exact ⟨x, p, es, pos, rfl, h.1.1.1, h.1.1.2, h.1.2, h.2⟩
      | cons kw kws => (simp only [chE] at h; cases h; done)
    all_goals (simp only [chE] at h; cases h; done)
  all_goals (simp only [chE] at h; cases h; done)
theorem inv_calls {f : Nat} {as : Ex} {Γ : Nm} {e : Expr} (h : chE (.calls f as) Γ e = true) : ∃ x p es pos, e = .Call (.Name x p) es [] pos ∧ glB Γ.sc x = true ∧ okName x = true ∧ (x, f, es.length) ∈ Γ.fns ∧ chL as Γ es = true := by
  cases e
  case Call fn es kws pos =>
    cases fn
    case Name x p =>
      cases kws with
      | nil =>
        simp only [chE, Bool.and_eq_true, decide_eq_true_eq] at h
        exact ⟨x, p, es, pos, rfl, h.1.1.1, h.1.1.2, h.1.2, h.2⟩
      | cons kw kws => (simp only [chE] at h; cases h; done)
    all_goals (simp only [chE] at h; cases h; done)
  all_goals (simp only [chE] at h; cases h; done)
theorem inv_rev {a : Ex} {Γ : Nm} {e : Expr} (h : chE (.rev a) Γ e = true) : ∃ x n p1 p2 p3 p, e = .Subscript x (.Slice none none (some (.UnaryOp .USub (.Constant (.int 1) n p1) p2)) p3) p ∧ chE a Γ x = true := by
  unfold chE at h
  split at h
  all_goals first
    | (cases h; done)
    | skip
  all_goals first
    | exact ⟨_, _, _, _, _, _, rfl, by simp_all⟩
    | simp_all
theorem inv_catM {a b : Ex} {Γ : Nm} {e : Expr} (h : chE (.catM a b) Γ e = true) : ∃ x y p, e = .BinOp x .Add y p ∧ chE a Γ x = true ∧ chE b Γ y = true := by
  cases e
  case BinOp x op y p =>
    cases op
    case Add =>
      simp only [chE, Bool.and_eq_true] at h
      exact ⟨x, y, p, rfl, h.1, h.2⟩
    all_goals (simp only [chE] at h; cases h; done)
  all_goals (simp only [chE] at h; cases h; done)
theorem inv_repM {a b : Ex} {Γ : Nm} {e : Expr} (h : chE (.repM a b) Γ e = true) : ∃ x y p, e = .BinOp x .Mult y p ∧ chE a Γ x = true ∧ chE b Γ y = true := by
  cases e
  case BinOp x op y p =>
    cases op
    case Mult =>
      simp only [chE, Bool.and_eq_true] at h
      exact ⟨x, y, p, rfl, h.1, h.2⟩
    all_goals (simp only [chE] at h; cases h; done)
  all_goals (simp only [chE] at h; cases h; done)
theorem inv_callk {f : Nat} {perm : List Nat} {as ks : Ex} {Γ : Nm} {e : Expr} (h : chE (.callk f perm as ks) Γ e = true) : ∃ x p es kws pos, e = .Call (.Name x p) es kws pos ∧ glB Γ.sc x = true ∧ okName x = true ∧ Γ.fns.any (fun q => decide (q.1 = x ∧ q.2.1 = f ∧ q.2.2 = es.length + kws.length)) = true ∧
    (f, es.length, kws.filterMap (·.arg), perm) ∈ Γ.kbs ∧ kws.all (·.arg.isSome) = true ∧ chL as Γ es = true ∧ chL ks Γ (kws.map (·.value)) = true := by
  cases e
  case Call fn es kws pos =>
    cases fn
    case Name x p =>
      simp only [chE, Bool.and_eq_true, decide_eq_true_eq] at h
      obtain ⟨⟨⟨⟨⟨⟨⟨h1, h2⟩, h3⟩, h4⟩, h5⟩, h6⟩, h7⟩, h8⟩ := h
      exact ⟨x, p, es, kws, pos, rfl, h1, h2, by simpa using h3, h4, h5, h7, h8⟩
    all_goals (simp only [chE] at h; cases h; done)
  all_goals (simp only [chE] at h; cases h; done)
theorem inv_bi {b : Bi} {as : Ex} {Γ : Nm} {e : Expr} (h : chE (.bi b as) Γ e = true) : ∃ p x xs pos, e = .Call (.Name (biN b) p) (x :: xs) [] pos ∧ bltB Γ (biN b) = true ∧ chL as Γ (x :: xs) = true := by
  cases e
  case Call fn es kws pos =>
    cases fn
    case Name x p =>
      rcases es with _ | ⟨y, _ | ⟨y2, _ | ⟨y3, es⟩⟩⟩ <;> cases kws <;> first
        | (simp only [chE, Bool.and_eq_true, decide_eq_true_eq] at h
           obtain ⟨⟨h1, h2⟩, h3⟩ := h
           subst h1
           exact ⟨p, y, _, pos, rfl, h2, h3⟩)
        | (simp only [chE] at h; cases h; done)
    all_goals (simp only [chE] at h; cases h; done)
  all_goals (simp only [chE] at h; cases h; done)
theorem inv_isi {a : Ex} {ts : List Ty} {Γ : Nm} {e : Expr} (h : chE (.isi a ts) Γ e = true) : ∃ p x t pos, e = .Call (.Name "isinstance" p) [x, t] [] pos ∧ bltB Γ "isinstance" = true ∧ chE a Γ x = true ∧ notStar x = true ∧
    ((∃ ty, ts = [ty] ∧ tyB Γ ty t = true) ∨ (∃ cs kt pt, t = .Tuple cs kt pt ∧ tysB Γ ts cs = true ∧ ts.length ≤ 100 ∧ ts ≠ [])) := by
  cases e
  case Call fn es kws pos =>
    cases fn
    case Name x p =>
      rcases es with _ | ⟨y, _ | ⟨t, _ | ⟨y3, es⟩⟩⟩ <;> cases kws <;> first
        | (simp only [chE, Bool.and_eq_true, decide_eq_true_eq] at h
           obtain ⟨⟨⟨⟨h1, h2⟩, h3⟩, h4⟩, h5⟩ := h
           subst h1
           refine ⟨p, y, t, pos, rfl, h2, h3, h4, ?_⟩
           split at h5
           · rename_i ty
             rw [Bool.or_eq_true] at h5
             rcases h5 with h5 | h5
             · exact .inl ⟨_, rfl, h5⟩
             · split at h5
               · exact .inr ⟨_, _, _, rfl, h5, by simp, by simp⟩
               · cases h5
           · rw [Bool.and_eq_true, Bool.and_eq_true, decide_eq_true_eq, decide_eq_true_eq] at h5
             exact .inr ⟨_, _, _, rfl, h5.1.1, h5.1.2, h5.2⟩
           · cases h5)
        | (simp only [chE] at h; cases h; done)
    all_goals (simp only [chE] at h; cases h; done)
  all_goals (simp only [chE] at h; cases h; done)
theorem tysB_len {Γ : Nm} : ∀ {ts : List Ty} {es : List Expr}, tysB Γ ts es = true → ts.length = es.length
  | [], [], _ => rfl
  | t :: ts, e :: es, h => by
    simp only [tysB, Bool.and_eq_true] at h
    rw [List.length_cons, List.length_cons, tysB_len h.2]
  | [], _ :: _, h => by simp only [tysB] at h; cases h
  | _ :: _, [], h => by simp only [tysB] at h; cases h
theorem inv_draw {a n : Ex} {Γ : Nm} {e : Expr} (h : chE (.draw a n) Γ e = true) : ∃ p x y pos, e = .Call (.Name Γ.drw p) [x, y] [] pos ∧ Γ.drw ≠ ("" : Str) ∧ glB Γ.sc Γ.drw = true ∧ okName Γ.drw = true ∧ chE a Γ x = true ∧ chE n Γ y = true ∧ notStar x = true ∧ notStar y = true := by
  cases e
  case Call fn es kws pos =>
    cases fn
    case Name x p =>
      rcases es with _ | ⟨y, _ | ⟨t, _ | ⟨y3, es⟩⟩⟩ <;> cases kws <;> first
        | (simp only [chE, Bool.and_eq_true, decide_eq_true_eq] at h
           obtain ⟨⟨⟨⟨⟨⟨⟨h1, h0⟩, h2⟩, h3⟩, h4⟩, h5⟩, h6⟩, h7⟩ := h
           subst h1
           exact ⟨p, y, t, pos, rfl, h0, h2, h3, h4, h5, h6, h7⟩)
        | (simp only [chE] at h; cases h; done)
    all_goals (simp only [chE] at h; cases h; done)
  all_goals (simp only [chE] at h; cases h; done)
theorem inv_join {o as : Ex} {Γ : Nm} {e : Expr} (h : chE (.me .join o as) Γ e = true) : ∃ x ap y cp, e = .Call (.Attribute x "join" ap) [y] [] cp ∧ ap.endLine = cp.line ∧ notCall x = true ∧ chE o Γ x = true ∧ chL as Γ [y] = true := by
  cases e
  case Call fn es kws pos =>
    cases fn
    case Attribute x n ap =>
      rcases es with _ | ⟨y, _ | ⟨y2, es⟩⟩ <;> cases kws <;> first
        | (simp only [chE, Bool.and_eq_true, decide_eq_true_eq] at h
           obtain ⟨⟨⟨⟨h1, h2⟩, h3⟩, h4⟩, h5⟩ := h
           subst h1
           exact ⟨x, ap, y, pos, rfl, h2, h3, h4, h5⟩)
        | (simp only [chE] at h; cases h; done)
    all_goals (simp only [chE] at h; cases h; done)
  all_goals (simp only [chE] at h; cases h; done)
theorem inv_sub {a i : Ex} {Γ : Nm} {e : Expr} (h : chE (.sub a i) Γ e = true) : ∃ x y p, e = .Subscript x y p ∧ chE a Γ x = true ∧ chE i Γ y = true ∧ notSlice y = true := by
  cases e
  case Subscript x y p =>
    simp only [chE, Bool.and_eq_true] at h
    exact ⟨x, y, p, rfl, h.1.1, h.1.2, h.2⟩
  all_goals (simp only [chE] at h; cases h; done)
theorem inv_slice {a lo hi : Ex} {Γ : Nm} {e : Expr} (h : chE (.slice a lo hi) Γ e = true) : ∃ x l u p2 p, e = .Subscript x (.Slice l u none p2) p ∧ chE a Γ x = true ∧ chL lo Γ l.toList = true ∧ chL hi Γ u.toList = true := by
  cases e
  case Subscript x y p =>
    cases y
    case Slice l u st p2 =>
      cases st with
      | none =>
        simp only [chE, Bool.and_eq_true] at h
        exact ⟨x, l, u, p2, p, rfl, h.1.1, h.1.2, h.2⟩
      | some _ => (simp only [chE] at h; cases h; done)
    all_goals (simp only [chE] at h; cases h; done)
  all_goals (simp only [chE] at h; cases h; done)
theorem inv_lst {m : Bool} {es : Ex} {Γ : Nm} {e : Expr} (h : chE (.lst m es) Γ e = true) : ∃ fs p, e = .List fs p ∧ chL es Γ fs = true := by
  cases e
  case List fs p =>
    simp only [chE] at h
    exact ⟨fs, p, rfl, h⟩
  all_goals (simp only [chE] at h; cases h; done)
theorem inv_tup {es : Ex} {Γ : Nm} {e : Expr} (h : chE (.tup es) Γ e = true) : ∃ fs kt p, e = .Tuple fs kt p ∧ chL es Γ fs = true := by
  cases e
  case Tuple fs kt p =>
    simp only [chE] at h
    exact ⟨fs, kt, p, rfl, h⟩
  all_goals (simp only [chE] at h; cases h; done)
/-- what an iterated expression must be -/
def chI (k : Wk) (src : Ex) (Γ : Nm) (tg it : Expr) : Bool := match k, it with
        | .val, it => chL src Γ [it]
        | .range, .Call (.Name x _) [e1] [] _ => decide (x = ("range" : Str)) && bltB Γ x && chL src Γ [e1]
        | .range, .Call (.Name x _) [e1, e2] [] _ => decide (x = ("range" : Str)) && bltB Γ x && chL src Γ [e1, e2]
        | .enum, .Call (.Name x _) [e1] [] _ => decide (x = ("enumerate" : Str)) && bltB Γ x && chL src Γ [e1] && isTup tg
        | .zip, .Call (.Name x _) [e1, e2] [] _ => decide (x = ("zip" : Str)) && bltB Γ x && chL src Γ [e1, e2] && isTup tg
        | _, _ => false
theorem inv_comp {m chk : Bool} {pt : Pat} {wk : Wk} {src cond elt : Ex} {Γ : Nm} {e : Expr} (h : chE (.comp m chk pt wk src cond elt) Γ e = true) : ∃ x tg it ifs scope p, e = .ListComp x [⟨tg, it, ifs, 0⟩] scope p ∧ notSet it = true ∧ blkC Γ.N Γ.sc scope (pt.own Γ.N) = true ∧ chP pt (Γ.blk scope) tg = true ∧ chE elt (Γ.blk scope) x = true ∧
    ((ifs = [] ∧ cond = .dat (.bl true)) ∨ ∃ c, ifs = [c] ∧ chE cond (Γ.blk scope) c = true ∧ notIf c = true) ∧ chI wk src Γ tg it = true := by
  cases e
  case ListComp x gs scope p =>
    rcases gs with _ | ⟨⟨tg, it, ifs, as⟩, _ | ⟨g2, gs⟩⟩
    · (simp only [chE] at h; cases h; done)
    · simp only [chE, Bool.and_eq_true, decide_eq_true_eq] at h
      obtain ⟨⟨⟨⟨⟨⟨⟨h1, h2⟩, h3⟩, h4⟩, h5⟩, h6⟩, h7⟩, h8⟩ := h
      subst h1
      refine ⟨x, tg, it, ifs, scope, p, rfl, h2, h3, h4, h6, ?_, h8⟩
      split at h7
      · split at h7
        · exact .inl ⟨rfl, rfl⟩
        · cases h7
      · rw [Bool.and_eq_true] at h7
        exact .inr ⟨_, rfl, h7.1, h7.2⟩
      · cases h7
    · (simp only [chE] at h; cases h; done)
  all_goals (simp only [chE] at h; cases h; done)
theorem inv_dct0 {Γ : Nm} {e : Expr} (h : chE .dct0 Γ e = true) : ∃ p, e = .Dict [] [] p := by
  cases e
  case Dict ks vs p =>
    cases ks <;> cases vs <;> first
      | exact ⟨p, rfl⟩
      | (simp only [chE] at h; cases h; done)
  all_goals (simp only [chE] at h; cases h; done)
theorem inv_frz {a : Ex} {Γ : Nm} {e : Expr} (h : chE (.frz a) Γ e = true) : chE a Γ e = true ∧ plainT e = true := by
  simp only [chE, Bool.and_eq_true] at h
  exact h
theorem noL {a : Ex} (h1 : a ≠ .nil) (h2 : ∀ x y, a ≠ .cons x y) {Γ : Nm} {es : List Expr} (h : chL a Γ es = true) : False := by
  cases a
  case nil => exact h1 rfl
  case cons x y => exact h2 x y rfl
  all_goals (simp only [chL] at h; cases h; done)
theorem i_of {X : Cx} {E : XK} {Γ : Nm} {src : Ex} {wk : Wk} {tg it : Expr} (s : SC X CX G C E k Γ) (ih : Snd CX G C k src) (h : chI wk src Γ tg it = true) (hone : ∀ {a as : Ex}, src = .cons a as → Snd CX G C k a) : PI X tg it (iD G E C wk src) := by
  unfold chI at h
  split at h
  · rename_i it
    cases src with
    | cons a as =>
      have h' := h
      simp only [chL, Bool.and_eq_true] at h'
      have ha := (hone rfl).e s h'.1.1
      have e2 : as = .nil := by
        cases as <;> first | rfl | (have := h'.2; simp only [chL] at this; cases this)
      subst e2
      refine i_val ha fun σ H R q => ?_
      obtain ⟨w, S, env, b, hw, kw, r, q⟩ := q
      subst hw
      simp only [evL] at q
      refine tE_bndP (P := fun w => Gos G w R) (fun _ _ _ _ l q => Gos.le l q) kw r q fun x b1 w1 v1 l1 k1 r1 re1 h1 => ?_
      exact h1 w1 [v1] (Le.refl _) k1 ⟨v1, [], rfl, r1, rfl⟩
    | nil => simp only [chL] at h; cases h
    | _ => exact (noL (by intro e; cases e) (by intro x y e; cases e) h).elim
  · simp only [Bool.and_eq_true, decide_eq_true_eq] at h
    obtain ⟨⟨h1, h2⟩, h3⟩ := h
    subst h1
    exact i_range1 s h2 h3 (ih.l s h3)
  · simp only [Bool.and_eq_true, decide_eq_true_eq] at h
    obtain ⟨⟨h1, h2⟩, h3⟩ := h
    subst h1
    exact i_range2 s h2 h3 (ih.l s h3)
  · simp only [Bool.and_eq_true, decide_eq_true_eq] at h
    obtain ⟨⟨⟨h1, h2⟩, h3⟩, h4⟩ := h
    subst h1
    exact i_enum s h2 h3 (ih.l s h3) h4
  · simp only [Bool.and_eq_true, decide_eq_true_eq] at h
    obtain ⟨⟨⟨h1, h2⟩, h3⟩, h4⟩ := h
    subst h1
    exact i_zip s h2 h3 (ih.l s h3) h4
  · cases h

theorem part_of {X : Cx} {E : XK} {Γ : Nm} {lo : Ex} {l : Option Expr} (s : SC X CX G C E k Γ) (ih : Snd CX G C k lo ∧ ∀ {x y : Ex}, lo = .cons x y → Snd CX G C k x) (h : chL lo Γ l.toList = true) : (lo = .nil ∧ l = none) ∨ ∃ a e, lo = .cons a .nil ∧ l = some e ∧ PE X e (tE G E C a) := by
  cases l with
  | none =>
    have h : chL lo Γ [] = true := h
    cases lo with
    | nil => exact .inl ⟨rfl, rfl⟩
    | cons a b => simp only [chL] at h; cases h
    | _ => exact (noL (by intro e; cases e) (by intro x y e; cases e) h).elim
  | some e =>
    have h : chL lo Γ [e] = true := h
    cases lo with
    | nil => simp only [chL] at h; cases h
    | cons a b =>
      simp only [chL, Bool.and_eq_true] at h
      have e2 : b = .nil := by
        cases b <;> first | rfl | (have := h.2; simp only [chL] at this; cases this)
      subst e2
      exact .inr ⟨a, e, rfl, rfl, (ih.2 rfl).e s h.1.1⟩
    | _ => exact (noL (by intro e; cases e) (by intro x y e; cases e) h).elim
theorem tT_yes {E : XK} {σ : L2.St} {H : Hp} {R : Bool → Hp → Prop} (h : tT G E C (.dat (.bl true)) σ H R) : tYes σ H R := by
  obtain ⟨w, S, env, b, hw, kw, r, h⟩ := h
  subst hw
  unfold tstE at h
  simp only [evE] at h
  exact h w (Le.refl w) kw
/-- a comprehension: its source, what it reads, what it means -/
theorem comp_of {X : Cx} {E : XK} {Γ : Nm} {m chk : Bool} {pt : Pat} {wk : Wk} {src cond elt : Ex} {x tg it : Expr} {ifs : List Expr} {scope : Scope} {p : Pos} (s : SC X CX G C E k Γ)
    (ihs : Snd CX G C k src ∧ ∀ {x y : Ex}, src = .cons x y → Snd CX G C k x) (ihc : Snd CX G C k cond) (ihe : Snd CX G C k elt) (h1 : notSet it = true) (h2 : blkC Γ.N Γ.sc scope (pt.own Γ.N) = true) (h3 : chP pt (Γ.blk scope) tg = true) (h4 : chE elt (Γ.blk scope) x = true)
    (h5 : (ifs = [] ∧ cond = .dat (.bl true)) ∨ ∃ c, ifs = [c] ∧ chE cond (Γ.blk scope) c = true ∧ notIf c = true) (h6 : chI wk src Γ tg it = true) :
    PI X tg it (iD G E C wk src) ∧ (∃ tt : TT, (∀ (st : Shared) (H : Hp) (c : Addr) (cl : List (Str × Addr)) (fp : List Addr), PTs (X.blk st H scope (compEnvC scope cl c X.env) fp) ifs tt) ∧
      (∀ (st : Shared) (H : Hp) (c : Addr) (cl : List (Str × Addr)) (fp : List Addr), PE (X.blk st H scope (compEnvC scope cl c X.env) fp) x (tE G E0 C elt)) ∧
      ∀ σ H Q, tE G E C (.comp m chk pt wk src cond elt) σ H Q → tLc (iD G E C wk src) (gP X.K pt) tt (tE G E0 C elt) ((pt.own Γ.N).map (·.2)) σ H Q) ∧
    PE X (.ListComp x [⟨tg, it, ifs, 0⟩] scope p) (tE G E C (.comp m chk pt wk src cond elt)) := by
  have hi := i_of s ihs.1 h6 ihs.2
  have he : ∀ (st : Shared) (H : Hp) (c : Addr) (cl : List (Str × Addr)) (fp : List Addr), PE (X.blk st H scope (compEnvC scope cl c X.env) fp) x (tE G E0 C elt) := fun st H c cl fp => ihe.e (s.blk st H scope cl c fp) h4
  rcases h5 with ⟨rfl, rfl⟩ | ⟨c, rfl, h5, h5'⟩
  · have q := c_comp (m := m) (chk := chk) (cond := .dat (.bl true)) (pos := p) s h1 h2 h3 hi tYes (fun σ H R h => tT_yes h) (fun _ _ _ _ _ => pts_nil) he
    exact ⟨hi, ⟨tYes, fun _ _ _ _ _ => pts_nil, he, q.1⟩, q.2⟩
  · have ht : ∀ (st : Shared) (H : Hp) (c' : Addr) (cl : List (Str × Addr)) (fp : List Addr), PTs (X.blk st H scope (compEnvC scope cl c' X.env) fp) [c] (tT G E0 C cond) := fun st H c' cl fp => pts_one (ihc.t (s.blk st H scope cl c' fp) h5 h5')
    have q := c_comp (m := m) (chk := chk) (pos := p) s h1 h2 h3 hi (tT G E0 C cond) (fun σ H R h => h) ht he
    exact ⟨hi, ⟨_, ht, he, q.1⟩, q.2⟩
theorem snd (a : Ex) : Snd CX G C k a ∧ ∀ {x y : Ex}, a = .cons x y → Snd CX G C k x := by
  induction a with
  | nil =>
    refine ⟨⟨fun s h => (by simp only [chE] at h; cases h), fun s h => (by simp only [chE] at h; cases h), fun s h => (by simp only [chE] at h; cases h), fun {X E Γ es} s h => ?_, fun {X E Γ kws} s h => ?_⟩, fun e => by cases e⟩
    · cases es with
      | nil => exact c_nil
      | cons e es => simp only [chL] at h; cases h
    · cases kws with
      | nil => exact ck_nil
      | cons e es => simp only [List.map_cons, chL] at h; cases h
  | cons a b iha ihb =>
    refine ⟨⟨fun s h => (by simp only [chE] at h; cases h), fun s h => (by simp only [chE] at h; cases h), fun s h => (by simp only [chE] at h; cases h), fun {X E Γ es} s h => ?_, fun {X E Γ kws} s h => ?_⟩, fun e => by cases e; exact iha.1⟩
    · cases es with
      | nil => simp only [chL] at h; cases h
      | cons e es =>
        simp only [chL, Bool.and_eq_true] at h
        exact c_cons (iha.1.e s h.1.1) (ihb.1.l s h.2) h.1.2
    · cases kws with
      | nil => simp only [List.map_nil, chL] at h; cases h
      | cons e es =>
        simp only [List.map_cons, chL, Bool.and_eq_true] at h
        obtain ⟨nm, e, kp⟩ := e
        exact ck_cons (iha.1.e s h.1.1) (ihb.1.k s h.2)
  | var i =>
    refine ⟨Snd.of (fun {X E Γ e} s h => ?_) (fun {Γ e} h => ?_) (fun h => noL (by intro e; cases e) (by intro x y e; cases e) h), fun e => by cases e⟩
    · obtain ⟨x, p, rfl, h1, h2, h3⟩ := inv_var h
      exact c_var s h1 h2 h3
    · obtain ⟨x, p, rfl, h1, h2, h3⟩ := inv_var h
      rfl
  | dat d =>
    refine ⟨Snd.of (fun {X E Γ e} s h => ?_) (fun {Γ e} h => ?_) (fun h => noL (by intro e; cases e) (by intro x y e; cases e) h), fun e => by cases e⟩
    · obtain ⟨c, n, p, rfl, h1⟩ := inv_dat h
      exact c_dat h1
    · obtain ⟨c, n, p, rfl, h1⟩ := inv_dat h
      rfl
  | glb y d =>
    refine ⟨Snd.of (fun {X E Γ e} s h => ?_) (fun {Γ e} h => ?_) (fun h => noL (by intro e; cases e) (by intro x y e; cases e) h), fun e => by cases e⟩
    · obtain ⟨p, rfl, h1, h2, h3⟩ := inv_glb h
      exact c_glb s h1 h2 h3
    · obtain ⟨p, rfl, h1, h2, h3⟩ := inv_glb h
      rfl
  | bin o a b iha ihb =>
    refine ⟨Snd.of (fun {X E Γ e} s h => ?_) (fun {Γ e} h => ?_) (fun h => noL (by intro e; cases e) (by intro x y e; cases e) h), fun e => by cases e⟩
    · obtain ⟨x, y, p, rfl, h1, h2⟩ := inv_bin h
      exact c_bin (iha.1.e s h1) (ihb.1.e s h2)
    · obtain ⟨x, y, p, rfl, h1, h2⟩ := inv_bin h
      rfl
  | neg a iha =>
    refine ⟨Snd.of (fun {X E Γ e} s h => ?_) (fun {Γ e} h => ?_) (fun h => noL (by intro e; cases e) (by intro x y e; cases e) h), fun e => by cases e⟩
    · obtain ⟨x, p, rfl, h1⟩ := inv_neg h
      exact c_neg (iha.1.e s h1)
    · obtain ⟨x, p, rfl, h1⟩ := inv_neg h
      rfl
  | cmp o a b iha ihb =>
    refine ⟨Snd.ofT (fun {X E Γ e} s h => ?_) (fun {X E Γ e} s h hi => ?_) (fun {X E Γ op vs p} s h => ?_) (fun h => noL (by intro e; cases e) (by intro x y e; cases e) h), fun e => by cases e⟩
    · obtain ⟨x, y, p, rfl, h1, h2, h3⟩ := inv_cmp h
      exact c_cmp s (iha.1.e s h1) (ihb.1.e s h2) h3
    · obtain ⟨x, y, p, rfl, h1, h2, h3⟩ := inv_cmp h
      exact t_cmp s (iha.1.e s h1) (ihb.1.e s h2) h3
    · obtain ⟨_, _, _, e, _⟩ := inv_cmp h; cases e
  | chain o o' a b c iha ihb ihc =>
    refine ⟨Snd.ofT (fun {X E Γ e} s h => ?_) (fun {X E Γ e} s h hi => ?_) (fun {X E Γ op vs p} s h => ?_) (fun h => noL (by intro e; cases e) (by intro x y e; cases e) h), fun e => by cases e⟩
    · obtain ⟨x, y, z, p, rfl, h1, h2, h3, h4⟩ := inv_chain h
      exact c_chain s (iha.1.e s h1) (ihb.1.e s h2) (ihc.1.e s h3) h4
    · obtain ⟨x, y, z, p, rfl, h1, h2, h3, h4⟩ := inv_chain h
      exact t_chain s (iha.1.e s h1) (ihb.1.e s h2) (ihc.1.e s h3) h4
    · obtain ⟨_, _, _, _, e, _⟩ := inv_chain h; cases e
  | and a b iha ihb =>
    refine ⟨Snd.ofT (fun {X E Γ e} s h => ?_) (fun {X E Γ e} s h hi => ?_) (fun {X E Γ op vs p} s h => ?_) (fun h => noL (by intro e; cases e) (by intro x y e; cases e) h), fun e => by cases e⟩
    · obtain ⟨x, y, r, p, rfl, h1, h2, h3, h4⟩ := inv_and h
      rcases h4 with ⟨rfl, h4⟩ | ⟨_, h4⟩
      · exact c_and (iha.1.e s h1) (pe_one (ihb.1.e s h4))
      · exact c_and (iha.1.e s h1) (ihb.1.e s h4)
    · obtain ⟨x, y, r, p, rfl, h1, h2, h3, h4⟩ := inv_and h
      rcases h4 with ⟨rfl, h4⟩ | ⟨_, h4⟩
      · exact (t_and (iha.1.t s h1 h2) (pw_and1 (ihb.1.t s h4 h3))).pt
      · exact (t_and (iha.1.t s h1 h2) (ihb.1.w s h4)).pt
    · obtain ⟨x, y, r, p', e, h1, h2, h3, h4⟩ := inv_and h
      cases e
      rcases h4 with ⟨rfl, h4⟩ | ⟨_, h4⟩
      · exact t_and (iha.1.t s h1 h2) (pw_and1 (ihb.1.t s h4 h3))
      · exact t_and (iha.1.t s h1 h2) (ihb.1.w s h4)
  | or a b iha ihb =>
    refine ⟨Snd.ofT (fun {X E Γ e} s h => ?_) (fun {X E Γ e} s h hi => ?_) (fun {X E Γ op vs p} s h => ?_) (fun h => noL (by intro e; cases e) (by intro x y e; cases e) h), fun e => by cases e⟩
    · obtain ⟨x, y, r, p, rfl, h1, h2, h3, h4⟩ := inv_or h
      rcases h4 with ⟨rfl, h4⟩ | ⟨_, h4⟩
      · exact c_or (iha.1.e s h1) (pe_one (ihb.1.e s h4))
      · exact c_or (iha.1.e s h1) (ihb.1.e s h4)
    · obtain ⟨x, y, r, p, rfl, h1, h2, h3, h4⟩ := inv_or h
      rcases h4 with ⟨rfl, h4⟩ | ⟨_, h4⟩
      · exact (t_or (iha.1.t s h1 h2) (pw_or1 (ihb.1.t s h4 h3))).pt
      · exact (t_or (iha.1.t s h1 h2) (ihb.1.w s h4)).pt
    · obtain ⟨x, y, r, p', e, h1, h2, h3, h4⟩ := inv_or h
      cases e
      rcases h4 with ⟨rfl, h4⟩ | ⟨_, h4⟩
      · exact t_or (iha.1.t s h1 h2) (pw_or1 (ihb.1.t s h4 h3))
      · exact t_or (iha.1.t s h1 h2) (ihb.1.w s h4)
  | not a iha =>
    refine ⟨Snd.ofT (fun {X E Γ e} s h => ?_) (fun {X E Γ e} s h hi => ?_) (fun {X E Γ op vs p} s h => ?_) (fun h => noL (by intro e; cases e) (by intro x y e; cases e) h), fun e => by cases e⟩
    · obtain ⟨x, p, rfl, h1, h2⟩ := inv_not h
      exact c_not (iha.1.e s h1)
    · obtain ⟨x, p, rfl, h1, h2⟩ := inv_not h
      exact t_not (iha.1.t s h1 h2)
    · obtain ⟨_, _, e, _⟩ := inv_not h; cases e
  | ite c a b ihc iha ihb =>
    refine ⟨Snd.ofT (fun {X E Γ e} s h => ?_) (fun {X E Γ e} s h hi => ?_) (fun {X E Γ op vs p} s h => ?_) (fun h => noL (by intro e; cases e) (by intro x y e; cases e) h), fun e => by cases e⟩
    · obtain ⟨x, y, z, p, rfl, h1, h2, h3, h4⟩ := inv_ite h
      exact c_ite (ihc.1.t s h1 h2) (iha.1.e s h3) (ihb.1.e s h4)
    · obtain ⟨x, y, z, p, rfl, h1, h2, h3, h4⟩ := inv_ite h
      cases hi
    · obtain ⟨_, _, _, _, e, _⟩ := inv_ite h; cases e
  | call f as ih =>
    refine ⟨Snd.of (fun {X E Γ e} s h => ?_) (fun {Γ e} h => ?_) (fun h => noL (by intro e; cases e) (by intro x y e; cases e) h), fun e => by cases e⟩
    · obtain ⟨x, p, es, pos, rfl, h1, h2, h3, h4⟩ := inv_call h
      exact c_call s h1 h2 h3 h4 (ih.1.l s h4)
    · obtain ⟨x, p, es, pos, rfl, h1, h2, h3, h4⟩ := inv_call h
      rfl
  | calls f as ih =>
    refine ⟨Snd.of (fun {X E Γ e} s h => ?_) (fun {Γ e} h => ?_) (fun h => noL (by intro e; cases e) (by intro x y e; cases e) h), fun e => by cases e⟩
    · obtain ⟨x, p, es, pos, rfl, h1, h2, h3, h4⟩ := inv_calls h
      exact c_calls s h1 h2 h3 h4 (ih.1.l s h4)
    · obtain ⟨x, p, es, pos, rfl, h1, h2, h3, h4⟩ := inv_calls h
      rfl
  | rev a iha =>
    refine ⟨Snd.of (fun {X E Γ e} s h => ?_) (fun {Γ e} h => ?_) (fun h => noL (by intro e; cases e) (by intro x y e; cases e) h), fun e => by cases e⟩
    · obtain ⟨x, n, p1, p2, p3, p, rfl, h1⟩ := inv_rev h
      exact c_rev (iha.1.e s h1)
    · obtain ⟨x, n, p1, p2, p3, p, rfl, h1⟩ := inv_rev h
      rfl
  | catM a b iha ihb =>
    refine ⟨Snd.of (fun {X E Γ e} s h => ?_) (fun {Γ e} h => ?_) (fun h => noL (by intro e; cases e) (by intro x y e; cases e) h), fun e => by cases e⟩
    · obtain ⟨x, y, p, rfl, h1, h2⟩ := inv_catM h
      exact c_catM (iha.1.e s h1) (ihb.1.e s h2)
    · obtain ⟨x, y, p, rfl, h1, h2⟩ := inv_catM h
      rfl
  | repM a b iha ihb =>
    refine ⟨Snd.of (fun {X E Γ e} s h => ?_) (fun {Γ e} h => ?_) (fun h => noL (by intro e; cases e) (by intro x y e; cases e) h), fun e => by cases e⟩
    · obtain ⟨x, y, p, rfl, h1, h2⟩ := inv_repM h
      exact c_repM (iha.1.e s h1) (ihb.1.e s h2)
    · obtain ⟨x, y, p, rfl, h1, h2⟩ := inv_repM h
      rfl
  | callk f perm as ks iha ihk =>
    refine ⟨Snd.of (fun {X E Γ e} s h => ?_) (fun {Γ e} h => ?_) (fun h => noL (by intro e; cases e) (by intro x y e; cases e) h), fun e => by cases e⟩
    · obtain ⟨x, p, es, kws, pos, rfl, h1, h2, h3, h4, h5, h6, h7⟩ := inv_callk h
      exact c_callk s h1 h2 h3 h4 h5 h6 (iha.1.l s h6) (ihk.1.k s h7) h7
    · obtain ⟨x, p, es, kws, pos, rfl, h1, h2, h3, h4, h5, h6, h7⟩ := inv_callk h
      rfl
  | bi b as ih =>
    refine ⟨Snd.of (fun {X E Γ e} s h => ?_) (fun {Γ e} h => ?_) (fun h => noL (by intro e; cases e) (by intro x y e; cases e) h), fun e => by cases e⟩
    · obtain ⟨p, x, xs, pos, rfl, h1, h2⟩ := inv_bi h
      exact c_bi s h1 h2 (ih.1.l s h2)
    · obtain ⟨p, x, xs, pos, rfl, h1, h2⟩ := inv_bi h
      rfl
  | isi a ts ih =>
    refine ⟨Snd.of (fun {X E Γ e} s h => ?_) (fun {Γ e} h => ?_) (fun h => noL (by intro e; cases e) (by intro x y e; cases e) h), fun e => by cases e⟩
    · obtain ⟨p, x, t, pos, rfl, h1, h2, h3, h4⟩ := inv_isi h
      rcases h4 with ⟨ty, rfl, h4⟩ | ⟨cs, kt, pt, rfl, h4, h5, h6⟩
      · exact c_isi1 s h1 (ih.1.e s h2) h3 h4
      · exact c_isiT s h1 (ih.1.e s h2) h3 h4 h5 h6
    · obtain ⟨p, x, t, pos, rfl, h1, h2, h3, h4⟩ := inv_isi h
      rfl
  | draw a n iha ihn =>
    refine ⟨Snd.of (fun {X E Γ e} s h => ?_) (fun {Γ e} h => ?_) (fun h => noL (by intro e; cases e) (by intro x y e; cases e) h), fun e => by cases e⟩
    · obtain ⟨p, x, y, pos, rfl, h0, h1, h2, h3, h4, h5, h6⟩ := inv_draw h
      exact c_draw s h0 h1 h2 (iha.1.e s h3) (ihn.1.e s h4) h5 h6
    · obtain ⟨p, x, y, pos, rfl, h0, h1, h2, h3, h4, h5, h6⟩ := inv_draw h
      rfl
  | me m o as iho iha =>
    cases m
    case join =>
      refine ⟨Snd.of (fun {X E Γ e} s h => ?_) (fun {Γ e} h => ?_) (fun h => noL (by intro e; cases e) (by intro x y e; cases e) h), fun e => by cases e⟩
      · obtain ⟨x, ap, y, cp, rfl, h1, h2, h3, h4⟩ := inv_join h
        exact c_join h1 h2 (iho.1.e s h3) h4 (iha.1.l s h4)
      · obtain ⟨x, ap, y, cp, rfl, h1, h2, h3, h4⟩ := inv_join h
        rfl
    all_goals
      refine ⟨Snd.of (fun {X E Γ e} s h => ?_) (fun {Γ e} h => ?_) (fun h => noL (by intro e; cases e) (by intro x y e; cases e) h), fun e => by cases e⟩
      · cases e <;> (simp only [chE] at h; cases h; done)
      · cases e <;> (simp only [chE] at h; cases h; done)
  | sub a i iha ihi =>
    refine ⟨Snd.of (fun {X E Γ e} s h => ?_) (fun {Γ e} h => ?_) (fun h => noL (by intro e; cases e) (by intro x y e; cases e) h), fun e => by cases e⟩
    · obtain ⟨x, y, p, rfl, h1, h2, h3⟩ := inv_sub h
      exact c_sub (iha.1.e s h1) (ihi.1.e s h2) h3
    · obtain ⟨x, y, p, rfl, h1, h2, h3⟩ := inv_sub h
      rfl
  | slice a lo hi iha ihl ihh =>
    refine ⟨Snd.of (fun {X E Γ e} s h => ?_) (fun {Γ e} h => ?_) (fun h => noL (by intro e; cases e) (by intro x y e; cases e) h), fun e => by cases e⟩
    · obtain ⟨x, l, u, p2, p, rfl, h1, h2, h3⟩ := inv_slice h
      exact c_slice (iha.1.e s h1) (c_part (part_of s ihl h2)) (c_part (part_of s ihh h3))
    · obtain ⟨x, l, u, p2, p, rfl, h1, h2, h3⟩ := inv_slice h
      rfl
  | lst m es ih =>
    refine ⟨Snd.of (fun {X E Γ e} s h => ?_) (fun {Γ e} h => ?_) (fun h => noL (by intro e; cases e) (by intro x y e; cases e) h), fun e => by cases e⟩
    · obtain ⟨fs, p, rfl, h1⟩ := inv_lst h
      exact c_lst (ih.1.l s h1)
    · obtain ⟨fs, p, rfl, h1⟩ := inv_lst h
      rfl
  | dct0  =>
    refine ⟨Snd.of (fun {X E Γ e} s h => ?_) (fun {Γ e} h => ?_) (fun h => noL (by intro e; cases e) (by intro x y e; cases e) h), fun e => by cases e⟩
    · obtain ⟨p, rfl⟩ := inv_dct0 h
      exact c_dct0
    · obtain ⟨p, rfl⟩ := inv_dct0 h
      rfl
  | tup es ih =>
    refine ⟨Snd.of (fun {X E Γ e} s h => ?_) (fun {Γ e} h => ?_) (fun h => noL (by intro e; cases e) (by intro x y e; cases e) h), fun e => by cases e⟩
    · obtain ⟨fs, kt, p, rfl, h1⟩ := inv_tup h
      exact c_tup (ih.1.l s h1)
    · obtain ⟨fs, kt, p, rfl, h1⟩ := inv_tup h
      rfl
  | comp m chk pt wk src cond elt ihs ihc ihe =>
    refine ⟨Snd.of (fun {X E Γ e} s h => ?_) (fun {Γ e} h => ?_) (fun h => noL (by intro e; cases e) (by intro x y e; cases e) h), fun e => by cases e⟩
    · obtain ⟨x, tg, it, ifs, scope, p, rfl, h1, h2, h3, h4, h5, h6⟩ := inv_comp h
      exact (comp_of s ihs ihc.1 ihe.1 h1 h2 h3 h4 h5 h6).2.2
    · obtain ⟨x, tg, it, ifs, scope, p, rfl, h1, h2, h3, h4, h5, h6⟩ := inv_comp h
      rfl
  | frz a ih =>
    refine ⟨Snd.of (fun {X E Γ e} s h => ?_) (fun {Γ e} h => ?_) (fun h => noL (by intro e; cases e) (by intro x y e; cases e) h), fun e => by cases e⟩
    · exact c_frz (ih.1.e s (inv_frz h).1)
    · exact (inv_frz h).2
end
end RL
end

section
set_option Elab.async false
set_option linter.all false
set_option maxHeartbeats 8000000
/-! RL17: statements mean what the interpreter says. Own work. -/
namespace RL
open PySem PySem.Spec PyProof.Rows L2

def GoB (G : Gam) (w : Wd) (D : Ends) : Fl × EnvD × Sto → Nat → Prop := fun r b' => ∀ w' σ', Le w w' → Ok G w' r.2.2 b' → RepE G w' r.2.1 σ' → match r.1 with
  | .nx => D.nx σ' w'.H
  | .bk => D.bk σ' w'.H
  | .ct => D.ct σ' w'.H
  | .rt x => ∀ v, RepW G w' x v → D.rt v w'.H
theorem GoB.le {G : Gam} {w w1 : Wd} {D : Ends} (l : Le w w1) {r : Fl × EnvD × Sto} {b : Nat} (h : GoB G w D r b) : GoB G w1 D r b := fun w' σ' l' => h w' σ' (l.trans l')
def tB (G : Gam) (E : XK) (C : Calls) (st : St) : TS := fun D σ H => ∃ w S env b, w.H = H ∧ Ok G w S b ∧ RepE G w env σ ∧ (exB C st env S).wpb b (GoB G w D) (EX G E w)

/-! ### the text of statements -/
def kindF (sc : Scope) : Bool := match sc.kind with
  | .function => true
  | _ => false
def localB (sc : Scope) (x : Str) : Bool := sc.names.lookup x == some .local
/-- whether a comprehension's list is stored within the comprehension -/
def swapB (sc : Scope) (x : Str) (py : Pos) (e : Expr) : Bool := match e with
  | .ListComp _ _ scope pos => localB sc x && (py.line == pos.line) && !(scope.names.any fun (n, k) => n == x && (k == .local || k == .cell))
  | _ => false
def notOther : Expr → Bool
  | .SetComp .. => false
  | .DictComp .. => false
  | _ => true
def plainNm (sc : Scope) (line : Nat) : Expr → Option Str
  | .Name id pos => if (sc.names.lookup id == some .local) && pos.line == line then some id else none
  | _ => none
def namesOf (sc : Scope) (ts : List Expr) : List Str := ts.filterMap (plainNm sc ((ts.head?.map (·.pos.line)).getD 0))
/-- a pair that is stored from the right -/
def swB (sc : Scope) (ts vs : List Expr) : Bool := (ts.length == 2 || ts.length == 3) && (vs.length == ts.length) && vs.all notStar && ((namesOf sc ts).length == ts.length) && ((namesOf sc ts).eraseDups.length == (namesOf sc ts).length) && !(vs.all (foldedForSure 8)) && !(vs.all (constantsAlone 8))
/-- .. or not -/
def nsB (sc : Scope) (ts vs : List Expr) : Bool := !((ts.length == 2 || ts.length == 3)) || !(vs.length == ts.length) || !(vs.all notStar) || !((namesOf sc ts).length == ts.length) || !((namesOf sc ts).eraseDups.length == (namesOf sc ts).length) || vs.all (foldedForSure 8)
def isTupE : Expr → Bool
  | .Tuple .. => true
  | _ => false

/-- slots of a pair that is stored from the right -/
def parB (a : Ex) (p : Pat) (ts : List Expr) (Γ : Nm) : Bool := match a, p, ts with
  | .tup _, .cons (.name i) (.cons (.name j) .nil), [.Name x _, .Name y _] => decide (Γ.N[i]? = some x) && decide (Γ.N[j]? = some y) && localB Γ.sc x && localB Γ.sc y && decide (i ≠ j)
  | .tup _, .cons (.name i) (.cons (.name j) (.cons (.name l) .nil)), [.Name x _, .Name y _, .Name z _] => decide (Γ.N[i]? = some x) && decide (Γ.N[j]? = some y) && decide (Γ.N[l]? = some z) && localB Γ.sc x && localB Γ.sc y && localB Γ.sc z && decide (i ≠ j) && decide (i ≠ l) && decide (j ≠ l)
  | _, _, _ => false
def chT (c : Ex) (Γ : Nm) (e : Expr) : Bool := chE c Γ e && notIf e
/-- targets that may be items -/
def chG : Ex → Nm → Expr → Bool
  | .var i, Γ, .Name x _ => stB Γ i x
  | .sub o i, Γ, .Subscript eo ei _ => chE o Γ eo && chE i Γ ei && notSlice ei
  | _, _, _ => false
def chGs : Ex → Nm → List Expr → Bool
  | .nil, _, [] => true
  | .cons t ts, Γ, e :: es => chG t Γ e && notStar e && chGs ts Γ es
  | _, _, _ => false
/-- names that are stored from the right -/
def parG (t : Ex) (ts : List Expr) (Γ : Nm) : Bool := match t, ts with
  | .cons (.var i) (.cons (.var j) .nil), [.Name x _, .Name y _] => decide (Γ.N[i]? = some x) && decide (Γ.N[j]? = some y) && localB Γ.sc x && localB Γ.sc y && decide (i ≠ j)
  | .cons (.var i) (.cons (.var j) (.cons (.var l) .nil)), [.Name x _, .Name y _, .Name z _] => decide (Γ.N[i]? = some x) && decide (Γ.N[j]? = some y) && decide (Γ.N[l]? = some z) && localB Γ.sc x && localB Γ.sc y && localB Γ.sc z && decide (i ≠ j) && decide (i ≠ l) && decide (j ≠ l)
  | _, _ => false
mutual
def chS : St → Nm → Stmt → Bool
  | .asg i a, Γ, .Assign [.Name x py] e pos => stB Γ i x && notOther e && (match a with
    | .comp .. => chE a Γ e
    | a => chE a Γ e && notComp e)
  | .asgP p a, Γ, .Assign [.Tuple ts kt pt] e pos => chP p Γ (.Tuple ts kt pt) && chE a Γ e && notComp e && (match e with
    | .Tuple vs _ _ => nsB Γ.sc ts vs || (swB Γ.sc ts vs && parB a p ts Γ)
    | _ => true)
  | .ife c a b, Γ, .If e s t _ => chT c Γ e && chB a Γ s && chB b Γ t
  | .forr _ p k src body, Γ, .For tg it s [] _ => notSet it && chP p Γ tg && chI k src Γ tg it && chB body Γ s
  | .whl _ c body, Γ, .While e s [] _ => chT c Γ e && chB body Γ s
  | .ret a, Γ, .Return (some e) _ => chE a Γ e
  | .retN, _, .Return none _ => true
  | .expr a, Γ, .Expr e _ => chE a Γ e && notComp e
  | .brk, _, .Break _ => true
  | .cont, _, .Continue _ => true
  | .pass, _, .Pass _ => true
  | .pass, _, .Expr (.Constant (.str _) _ _) _ => true
  | .asgT ts es, Γ, .Assign [.Tuple tgs _ _] (.Tuple vs _ _) _ => chL es Γ vs && chGs ts Γ tgs && decide (vs.length = tgs.length) && (nsB Γ.sc tgs vs || (swB Γ.sc tgs vs && parG ts tgs Γ))
  | .never, _, _ => true
  | .setI o i a, Γ, .Assign [.Subscript eo ei _] e _ => chE o Γ eo && chE i Γ ei && chE a Γ e && notSlice ei
  | .app i a, Γ, .Expr (.Call (.Attribute (.Name x _) n ap) [e] [] cp) _ => decide (n = ("append" : Str)) && decide (ap.endLine = cp.line) && decide (Γ.N[i]? = some x) && visB Γ.sc x && okName x && chE a Γ e && notStar e
  | _, _, _ => false
def chB : St → Nm → List Stmt → Bool
  | .nil, _, [] => true
  | .cons s t, Γ, a :: b => chS s Γ a && chB t Γ b
  | _, _, _ => false
end

section
variable {X : Cx} {CX : CXT} {G : Gam} {C : Calls} {E : XK} {k : Nat} {Γ : Nm}
def sStar : Expr → Bool
  | .Starred .. => true
  | _ => false
theorem sStar_any (vs : List Expr) : vs.any sStar = !(vs.all notStar) := by
  induction vs with
  | nil => rfl
  | cons v vs ih =>
    rw [List.any_cons, List.all_cons, ih]
    cases v <;> rfl
theorem swaps_eq {env : Env} {ts vs : List Expr} {kt k2 : Nat} {pt p2 : Pos} : swappedStores [.Tuple ts kt pt] (.Tuple vs k2 p2) env =
    (if (!(ts.length == 2 || ts.length == 3) || vs.length != ts.length || env.blockKind != ScopeKind.function) = true then pure none
    else if vs.any sStar = true then pure none
    else if ((namesOf env.scope ts).length != ts.length || (namesOf env.scope ts).eraseDups.length != (namesOf env.scope ts).length) = true then pure none
    else if vs.all (foldedForSure 8) = true then pure none
    else if vs.all (constantsAlone 8) = true then (do unsupported "assign.tuple-of-constant-expressions:order-of-the-stores"; pure (some (namesOf env.scope ts)))
    else pure (some (namesOf env.scope ts))) := by
  unfold swappedStores
  have e1 : sStar = (fun x => match x with
      | .Starred .. => true
      | _ => false) := by
    funext x
    cases x <;> rfl
  have e2 : plainNm env.scope ((ts.head?.map (·.pos.line)).getD 0) = (fun x => match x with
      | .Name id pos => if env.kindOf id == some .local && pos.line == (ts.head?.map (·.pos.line)).getD 0 then some id else none
      | _ => none) := by
    funext x
    cases x <;> rfl
  unfold namesOf
  rw [e1, e2]
  rfl
theorem swaps_ns {env : Env} {ts vs : List Expr} {kt k2 : Nat} {pt p2 : Pos} (h : nsB env.scope ts vs = true) : swappedStores [.Tuple ts kt pt] (.Tuple vs k2 p2) env = pure none := by
  rw [swaps_eq, sStar_any]
  unfold nsB at h
  split
  · rfl
  · rename_i c1
    split
    · rfl
    · rename_i c2
      split
      · rfl
      · rename_i c3
        split
        · rfl
        · rename_i c4
          simp only [Bool.or_eq_true, Bool.not_eq_true', bne_iff_ne, ne_eq, beq_eq_false_iff_ne] at h c1 c2 c3 c4
          exfalso
          simp_all
          obtain ⟨x, hx, hf⟩ := c4
          rcases h with h | h
          · exact h.2 (c1.1.1 h.1)
          · rw [h x hx] at hf
            cases hf
theorem kindF_ok {sc : Scope} (h : kindF sc = true) : sc.kind = .function := by
  unfold kindF at h
  split at h
  · assumption
  · cases h
theorem swaps_sw {env : Env} {ts vs : List Expr} {kt k2 : Nat} {pt p2 : Pos} (hk : kindF env.scope = true) (h : swB env.scope ts vs = true) : swappedStores [.Tuple ts kt pt] (.Tuple vs k2 p2) env = pure (some (namesOf env.scope ts)) := by
  have hb : env.blockKind = .function := by unfold Env.blockKind; rw [kindF_ok hk]; rfl
  rw [swaps_eq, sStar_any, hb]
  unfold swB at h
  simp only [Bool.and_eq_true, Bool.not_eq_true'] at h
  obtain ⟨⟨⟨⟨⟨⟨h1, h2⟩, h3⟩, h4⟩, h5⟩, h6⟩, h7⟩ := h
  rw [h1, h3, h6, h7]
  have e2 : (vs.length != ts.length) = false := by rw [bne, h2]; rfl
  have e4 : ((namesOf env.scope ts).length != ts.length) = false := by rw [bne, h4]; rfl
  have e5 : ((namesOf env.scope ts).eraseDups.length != (namesOf env.scope ts).length) = false := by rw [bne, h5]; rfl
  rw [e2, e4, e5]
  rfl
theorem swaps_not {env : Env} {e t : Expr} (h : isTupE e = false) : swappedStores [t] e env = pure none := by
  cases e <;> first
    | (cases h; done)
    | (unfold swappedStores; cases t <;> rfl)
theorem sw_plain {e : Expr} {t : Option Expr} {l : Nat} {env : Env} (h : notComp e = true) : swapsWith e t l env = pure false := by
  cases e <;> first
    | rfl
    | cases h
theorem sw_lc {e : Expr} {gs : List Comprehension} {scope : Scope} {pos py : Pos} {x : Str} {l : Nat} {env : Env} (hk : kindF env.scope = true) : swapsWith (.ListComp e gs scope pos) (some (.Name x py)) l env = pure (swapB env.scope x py (.ListComp e gs scope pos)) := by
  have hk : env.scope.kind = .function := by
    unfold kindF at hk
    split at hk
    · assumption
    · cases hk
  have hb : env.blockKind = .function := by unfold Env.blockKind; rw [hk]; rfl
  unfold swapsWith
  simp only [hb, Expr.pos, swapB, localB]
  rfl

theorem chP_tup {p : Pat} {tg : Expr} (h : chP p Γ tg = true) : True := True.intro
/-- value, then store -/
theorem s_asg {i : Nat} {a : Ex} {x : Str} {e : Expr} {py pos : Pos} (s : SC X CX G C E k Γ) (hk : kindF Γ.sc = true) (hst : stB Γ i x = true) (ho : notOther e = true) (he : chE a Γ e = true) (hc : notComp e = true ∨ ∃ m chk pt wk src cond elt, a = .comp m chk pt wk src cond elt) : PS X (.Assign [.Name x py] e pos) (tB G E C (.asg i a)) := by
  obtain ⟨h1, h2, h3⟩ := s.store hst
  have go : ∀ {D : Ends} {σ : L2.St} {H : Hp}, tB G E C (.asg i a) D σ H → tE G E C a σ H fun v H1 => gName i v σ H1 D.nx := fun {D σ H} ⟨w, S, env, b, hw, kw, r, h⟩ => by
    subst hw
    simp only [exB] at h
    refine tE_bndP (P := fun w => GoB G w D) (fun _ _ _ _ l q => GoB.le l q) kw r h fun y b1 w1 v1 l1 k1 r1 re1 h1 => ?_
    obtain ⟨env', e1, h1⟩ := wpb_opt.mp h1
    unfold setW at e1
    split at e1
    · cases Option.some.inj e1
      exact h1 w1 (σ.set i (some v1)) (Le.refl _) k1 (re1.set r1)
    · cases e1
  by_cases hsw : swapB Γ.sc x py e = true
  · cases e with
    | ListComp ee gs scope p =>
      rcases hc with hc | ⟨m, chk, pt, wk, src, cond, elt, rfl⟩
      · cases hc
      · obtain ⟨x', tg, it, ifs, scope', p', e1, g1, g2, g3, g4, g5, g6⟩ := inv_comp he
        cases e1
        obtain ⟨hi, ⟨tt, ht, hee, main⟩, _⟩ := comp_of (m := m) (chk := chk) (p := p) s (snd src) (snd cond).1 (snd elt).1 g1 g2 g3 g4 g5 g6
        have hl : Γ.sc.names.lookup x = some .local := by
          unfold swapB localB at hsw
          simp only [Bool.and_eq_true] at hsw
          simpa using hsw.1.1
        have hsw' : swapsWith (.ListComp ee [⟨tg, it, ifs, 0⟩] scope p) (some (.Name x py)) pos.line X.env = pure true := by
          rw [sw_lc (by rw [s.sc]; exact hk), s.sc, hsw]
        refine PS.imp (ps_setLc (g := gP X.K pt) s.calm s.nd h1 (by rw [s.sc]; exact hl) hsw' hi (blkOk_by (by rw [s.N, s.sc]; exact g2)) (fun st H c cl fp => c_pat (s.blk st H scope cl c fp) pt g3) ht hee (notSet_ok g1 X.env)) fun D σ H q => ?_
        exact main _ _ _ (go q)
    | _ => cases hsw
  · refine PS.imp (ps_set s.nd h1 h2 ((snd a).1.e s he) ?_ h3) fun D σ H q => go q
    cases e with
    | ListComp ee gs scope p =>
      rw [sw_lc (by rw [s.sc]; exact hk), s.sc]
      rw [Bool.not_eq_true] at hsw
      rw [hsw]
    | _ => first | rfl | cases ho
theorem s_asgP {p : Pat} {a : Ex} {tg e : Expr} {pos : Pos} (s : SC X CX G C E k Γ) (hp : chP p Γ tg = true) (he : chE a Γ e = true) (hc : notComp e = true) (hs : notStar tg = true) (hw : swappedStores [tg] e X.env = pure none) : PS X (.Assign [tg] e pos) (tB G E C (.asgP p a)) := by
  refine PS.imp (ps_asg ((snd a).1.e s he) (c_pat s p hp) (sw_plain hc) hw (by rw [asgEach_cons hs]; rfl)) fun D σ H ⟨w, S, env, b, hw, kw, r, h⟩ => ?_
  subst hw
  simp only [exB] at h
  refine tE_bndP (P := fun w => GoB G w D) (fun _ _ _ _ l q => GoB.le l q) kw r h fun y b1 w1 v1 l1 k1 r1 re1 h1 => ?_
  obtain ⟨d, ed, h1⟩ := wpb_opt.mp h1
  cases hb : bindP p d env with
  | none =>
    rw [hb] at h1
    exact h1.elim
  | some env' =>
    rw [hb] at h1
    refine gP_ok p hb (re1.u fun _ => False) k1.sub (dat_ok r1 ed) fun σ' bd => ?_
    exact h1 w1 σ' (Le.refl _) k1 (bd.rep.e fun i hi => hi.1)
theorem tup_of {es : Ex} {D : Ends} {p : Pat} {σ : L2.St} {H : Hp} (h : tB G E C (.asgP p (.tup es)) D σ H) : tA G E C es σ H fun vs H1 => ∃ w S b env ds env', w.H = H1 ∧ Ok G w S b ∧ RepE G w env σ ∧ RepL G w.p w.B ds vs ∧ bindP p (.tup ds) env = some env' ∧ ∀ σ', RepE G w env' σ' → D.nx σ' w.H := by
  obtain ⟨w, S, env, b, hw, kw, r, h⟩ := h
  subst hw
  simp only [exB, evE, bnd_assoc, opt_bnd] at h
  refine tA_bndP (P := fun w => GoB G w D) (fun _ _ _ _ l q => GoB.le l q) kw r h fun y b1 w1 vs l1 k1 r1 re1 h1 => ?_
  obtain ⟨ds, eds, h1⟩ := wpb_opt.mp h1
  split at h1
  · have h1 : (M.opt (datW (.d (.tup ds))) fun d => match bindP p d env with
      | some env' => .ret (.nx, env', y.2)
      | none => .stuck).wpb b1 (GoB G w1 D) (EX G E w1) := h1
    obtain ⟨d, ed, h1⟩ := wpb_opt.mp h1
    cases Option.some.inj ed
    cases hb : bindP p (.tup ds) env with
    | none =>
      rw [hb] at h1
      exact h1.elim
    | some env' =>
      rw [hb] at h1
      exact ⟨w1, y.2, b1, env, ds, env', rfl, k1, re1, RepWs.dat eds r1, hb, fun σ' re => h1 w1 σ' (Le.refl _) k1 re⟩
  · exact h1.elim
theorem localB_ok {sc : Scope} {x : Str} (h : localB sc x = true) : sc.names.lookup x = some .local := by
  unfold localB at h
  simpa using h
theorem s_par {i j : Nat} {es : Ex} {x y : Str} {e f : Expr} {px py pt p2 pos : Pos} {kt k2 : Nat} (s : SC X CX G C E k Γ) (hk : kindF Γ.sc = true) (hi : Γ.N[i]? = some x) (hj : Γ.N[j]? = some y) (hx : localB Γ.sc x = true) (hy : localB Γ.sc y = true) (hij : i ≠ j)
    (he : chL es Γ [e, f] = true) (hsw : swB Γ.sc [.Name x px, .Name y py] [e, f] = true) : PS X (.Assign [.Tuple [.Name x px, .Name y py] kt pt] (.Tuple [e, f] k2 p2) pos) (tB G E C (.asgP (.cons (.name i) (.cons (.name j) .nil)) (.tup es))) := by
  have hn : namesOf Γ.sc [.Name x px, .Name y py] = [x, y] := by
    have h := hsw
    unfold swB at h
    simp only [Bool.and_eq_true] at h
    have h4 := h.1.1.1.2
    unfold namesOf plainNm at h4 ⊢
    simp only [List.filterMap_cons, List.filterMap_nil] at h4 ⊢
    split at h4 <;> split at h4 <;> simp_all
    all_goals (try (split at h4 <;> simp_all))
  have hw := swaps_sw (env := X.env) (kt := kt) (k2 := k2) (pt := pt) (p2 := p2) (by rw [s.sc]; exact hk) (by rw [s.sc]; exact hsw)
  rw [s.sc, hn] at hw
  refine PS.imp (ps_par s.calm s.nd (by rw [s.N]; exact hi) (by rw [s.N]; exact hj) hij (by rw [s.sc]; exact localB_ok hx) (by rw [s.sc]; exact localB_ok hy) ((snd es).1.l s he) hw) fun D σ H h => ?_
  refine tA_imp (tup_of h) fun vs H1 ⟨w, S, b, env, ds, env', hw, kw, re, rl, hb, q⟩ => ?_
  subst hw
  have hl := bindPs_length _ (show bindPs (.cons (.name i) (.cons (.name j) .nil)) ds env = some env' from hb)
  obtain ⟨d1, d2, rfl⟩ : ∃ d1 d2, ds = [d1, d2] := by
    rcases ds with _ | ⟨d1, _ | ⟨d2, _ | ⟨d3, ds⟩⟩⟩
    · cases hl
    · cases hl
    · exact ⟨d1, d2, rfl⟩
    · simp [Pat.wide] at hl
  simp only [RepL] at rl
  obtain ⟨v1, vs1, rfl, r1, v2, vs2, rfl, r2, rfl⟩ := rl
  simp only [bindP, bindPs] at hb
  split at hb
  · rename_i e1 hb1
    split at hb1
    · cases Option.some.inj hb1
      split at hb
      · rename_i e2 hb2
        split at hb2
        · cases Option.some.inj hb2
          cases Option.some.inj hb
          exact ⟨v1, v2, rfl, q _ ((re.set (x := .d d1) r1).set (x := .d d2) r2)⟩
        · cases hb2
      · cases hb
    · cases hb1
  · cases hb
theorem s_ret {a : Ex} {e : Expr} {pos : Pos} (s : SC X CX G C E k Γ) (he : chE a Γ e = true) : PS X (.Return (some e) pos) (tB G E C (.ret a)) := by
  refine PS.imp (ps_ret ((snd a).1.e s he)) fun D σ H ⟨w, S, env, b, hw, kw, r, h⟩ => ?_
  subst hw
  simp only [exB] at h
  refine tE_bndP (P := fun w => GoB G w D) (fun _ _ _ _ l q => GoB.le l q) kw r h fun y b1 w1 v1 l1 k1 r1 re1 h1 => ?_
  exact h1 w1 σ (Le.refl _) k1 re1 v1 r1
theorem s_retN {pos : Pos} : PS X (.Return none pos) (tB G E C .retN) := by
  refine PS.imp ps_retN fun D σ H ⟨w, S, env, b, hw, kw, r, h⟩ => ?_
  subst hw
  simp only [exB] at h
  exact h w σ (Le.refl _) kw r .non (by simp only [RepW, RepV])
theorem s_expr {a : Ex} {e : Expr} {pos : Pos} (s : SC X CX G C E k Γ) (he : chE a Γ e = true) (hc : notComp e = true) : PS X (.Expr e pos) (tB G E C (.expr a)) := by
  refine PS.imp (ps_expr ((snd a).1.e s he) (sw_plain hc)) fun D σ H ⟨w, S, env, b, hw, kw, r, h⟩ => ?_
  subst hw
  simp only [exB] at h
  refine tE_bndP (P := fun w => GoB G w D) (fun _ _ _ _ l q => GoB.le l q) kw r h fun y b1 w1 v1 l1 k1 r1 re1 h1 => ?_
  exact h1 w1 σ (Le.refl _) k1 re1
theorem s_brk {pos : Pos} : PS X (.Break pos) (tB G E C .brk) := by
  refine PS.imp ps_break fun D σ H ⟨w, S, env, b, hw, kw, r, h⟩ => ?_
  subst hw
  simp only [exB] at h
  exact h w σ (Le.refl _) kw r
theorem s_cont {pos : Pos} : PS X (.Continue pos) (tB G E C .cont) := by
  refine PS.imp ps_continue fun D σ H ⟨w, S, env, b, hw, kw, r, h⟩ => ?_
  subst hw
  simp only [exB] at h
  exact h w σ (Le.refl _) kw r
theorem tB_pass {D : Ends} {σ : L2.St} {H : Hp} (h : tB G E C .pass D σ H) : tNext D σ H := by
  obtain ⟨w, S, env, b, hw, kw, r, h⟩ := h
  subst hw
  simp only [exB] at h
  exact h w σ (Le.refl _) kw r
theorem tB_never {D : Ends} {σ : L2.St} {H : Hp} (h : tB G E C .never D σ H) : tNever D σ H := by
  obtain ⟨w, S, env, b, hw, kw, r, h⟩ := h
  simp only [exB] at h
  exact h.elim
theorem s_ife {c : Ex} {a b : St} {e : Expr} {s1 s2 : List Stmt} {pos : Pos} (s : SC X CX G C E k Γ) (he : chT c Γ e = true) (ha : PSs X s1 (tB G E C a)) (hb : PSs X s2 (tB G E C b)) : PS X (.If e s1 s2 pos) (tB G E C (.ife c a b)) := by
  unfold chT at he
  rw [Bool.and_eq_true] at he
  refine PS.imp (ps_if ((snd c).1.t s he.1 he.2) ha hb) fun D σ H ⟨w, S, env, b0, hw, kw, r, h⟩ => ?_
  subst hw
  simp only [exB] at h
  rw [M.wpb_bnd] at h
  refine ⟨w, S, env, b0, rfl, kw, r, (tstE C c env S).wpb_mono h (fun x b1 h1 => ?_) fun _ _ _ q => q⟩
  intro w1 l1 k1
  have h2 := wle (G := G) (E := E) (Q1 := fun w => GoB G w D) l1 (fun _ _ q => GoB.le l1 q) h1
  cases hx : x.1 with
  | true =>
    rw [hx, if_pos rfl] at h2
    show (if true = true then _ else _)
    rw [if_pos rfl]
    exact ⟨w1, x.2, env, b1, rfl, k1, r.le l1, h2⟩
  | false =>
    rw [hx, if_neg Bool.false_ne_true] at h2
    show (if false = true then _ else _)
    rw [if_neg Bool.false_ne_true]
    exact ⟨w1, x.2, env, b1, rfl, k1, r.le l1, h2⟩
theorem s_nil : PSs X [] (tB G E C .nil) := by
  refine PSs.imp pss_nil fun D σ H ⟨w, S, env, b0, hw, kw, r, h⟩ => ?_
  subst hw
  simp only [exB] at h
  exact h w σ (Le.refl _) kw r
theorem s_cons {a b : St} {s1 : Stmt} {s2 : List Stmt} (ha : PS X s1 (tB G E C a)) (hb : PSs X s2 (tB G E C b)) : PSs X (s1 :: s2) (tB G E C (.cons a b)) := by
  refine PSs.imp (pss_cons ha hb) fun D σ H ⟨w, S, env, b0, hw, kw, r, h⟩ => ?_
  subst hw
  simp only [exB] at h
  rw [M.wpb_bnd] at h
  refine ⟨w, S, env, b0, rfl, kw, r, (exB C a env S).wpb_mono h (fun x b1 h1 => ?_) fun _ _ _ q => q⟩
  intro w1 σ1 l1 k1 re1
  have h2 := wle (G := G) (E := E) (Q1 := fun w => GoB G w D) l1 (fun _ _ q => GoB.le l1 q) h1
  obtain ⟨fl, env1, S1⟩ := x
  cases fl with
  | nx => exact ⟨w1, S1, env1, b1, rfl, k1, re1, h2⟩
  | bk => exact h2 w1 σ1 (Le.refl _) k1 re1
  | ct => exact h2 w1 σ1 (Le.refl _) k1 re1
  | rt z => exact h2 w1 σ1 (Le.refl _) k1 re1
theorem s_for {chk : Bool} {p : Pat} {wk : Wk} {src : Ex} {body : St} {tg it : Expr} {s1 : List Stmt} {pos : Pos} (s : SC X CX G C E k Γ) (hs : notSet it = true) (hp : chP p Γ tg = true) (hi : chI wk src Γ tg it = true) (hb : PSs X s1 (tB G E C body)) :
    PS X (.For tg it s1 [] pos) (tB G E C (.forr chk p wk src body)) := by
  refine PS.imp (ps_for s.own s.calm (i_of s (snd src).1 hi (snd src).2) (c_pat s p hp) hb (notSet_ok hs X.env)) fun D σ H ⟨w, S, env, b0, hw, kw, r, h⟩ => ?_
  subst hw
  simp only [exB] at h
  refine tA_bndP (P := fun w => GoB G w D) (fun _ _ _ _ l q => GoB.le l q) kw r h fun y b1 w1 vs l1 k1 r1 re1 h1 => ?_
  obtain ⟨ds, eds, h1⟩ := wpb_opt.mp h1
  obtain ⟨its, eits, h1⟩ := wpb_opt.mp h1
  refine ⟨w1, y.2, b1, ds, its, rfl, k1, RepWs.dat eds r1, eits, fun J wk' => ?_⟩
  split at h1
  · refine ⟨fun i m σ H => m = its.length - i ∧ i ≤ its.length ∧ ∃ w2 S2 env2 b2, Le w1 w2 ∧ w2.H = H ∧ Ok G w2 S2 b2 ∧ RepE G w2 env2 σ ∧ (forL (fun env' S' => exB C body env' S') p (its.drop i) env2 S2).wpb b2 (GoB G w2 D) (EX G E w2), ⟨its.length, by simp, Nat.zero_le _, w1, y.2, env, b1, Le.refl _, rfl, k1, re1, by simpa using h1⟩, ?_⟩
    rintro i m σ2 H2 ⟨rfl, hle, w2, S2, env2, b2, l2, rfl, k2, re2, h2⟩
    by_cases hlt : i < its.length
    · refine .inr ⟨wk'.goes i w2 S2 b2 l2 k2 hlt, fun σ' H' => i + 1 ≤ its.length ∧ ∃ w2 S2 env2 b2, Le w1 w2 ∧ w2.H = H' ∧ Ok G w2 S2 b2 ∧ RepE G w2 env2 σ' ∧ (forL (fun env' S' => exB C body env' S') p (its.drop (i + 1)) env2 S2).wpb b2 (GoB G w2 D) (EX G E w2), fun σ' H' p' => ⟨its.length - (i + 1), by omega, rfl, p'⟩, fun x H' yy => ?_⟩
      obtain ⟨d, ed⟩ : ∃ d, its[i]? = some d := ⟨_, List.getElem?_eq_getElem hlt⟩
      obtain ⟨w3, l3, k3, eH, rx⟩ := wk'.yields i w2 S2 b2 x H' d l2 k2 ed yy
      subst eH
      have edrop : its.drop i = d :: its.drop (i + 1) := by
        rw [List.drop_eq_getElem_cons hlt]
        congr 1
        rw [List.getElem?_eq_getElem hlt] at ed
        exact Option.some.inj ed
      rw [edrop] at h2
      simp only [forL] at h2
      cases hb2 : bindP p d env2 with
      | none =>
        rw [hb2] at h2
        exact h2.elim
      | some env3 =>
        rw [hb2] at h2
        have h3 := wle (G := G) (E := E) (Q1 := fun w => GoB G w D) l3 (fun _ _ q => GoB.le l3 q) h2
        refine gP_ok p hb2 ((re2.le l3).u fun _ => False) k3.sub rx fun σ3 bd => ?_
        refine ⟨w3, S2, env3, b2, rfl, k3, bd.rep.e fun i hi => hi.1, ?_⟩
        have h3 : ((exB C body env3 S2).bnd fun r => match r.1 with
          | .nx => forL (fun env' S' => exB C body env' S') p (its.drop (i + 1)) r.2.1 r.2.2
          | .ct => forL (fun env' S' => exB C body env' S') p (its.drop (i + 1)) r.2.1 r.2.2
          | .bk => .ret (.nx, r.2.1, r.2.2)
          | .rt w => .ret (.rt w, r.2.1, r.2.2)).wpb b2 (GoB G w3 D) (EX G E w3) := h3
        rw [M.wpb_bnd] at h3
        refine (exB C body env3 S2).wpb_mono h3 (fun z b4 h4 => ?_) fun _ _ _ q => q
        intro w4 σ4 l4 k4 re4
        have h5 := wle (G := G) (E := E) (Q1 := fun w => GoB G w D) l4 (fun _ _ q => GoB.le l4 q) h4
        obtain ⟨fl, env4, S4⟩ := z
        cases fl with
        | nx => exact ⟨hlt, w4, S4, env4, b4, (l2.trans l3).trans l4, rfl, k4, re4, h5⟩
        | ct => exact ⟨hlt, w4, S4, env4, b4, (l2.trans l3).trans l4, rfl, k4, re4, h5⟩
        | bk => exact h5 w4 σ4 (Le.refl _) k4 re4
        | rt z => exact h5 w4 σ4 (Le.refl _) k4 re4
    · have ei : i = its.length := by omega
      subst ei
      rw [List.drop_length] at h2
      exact .inl ⟨wk'.stops w2 S2 b2 l2 k2, h2 w2 σ2 (Le.refl _) k2 re2⟩
  · exact h1.elim
theorem s_whl {gas : Nat} {c : Ex} {body : St} {e : Expr} {s1 : List Stmt} {pos : Pos} (s : SC X CX G C E k Γ) (he : chT c Γ e = true) (hb : PSs X s1 (tB G E C body)) : PS X (.While e s1 [] pos) (tB G E C (.whl gas c body)) := by
  unfold chT at he
  rw [Bool.and_eq_true] at he
  refine PS.imp (ps_while s.own ((snd c).1.t s he.1 he.2) hb) fun D σ H ⟨w, S, env, b0, hw, kw, r, h⟩ => ?_
  subst hw
  simp only [exB] at h
  refine ⟨fun m σ H => ∃ w S env b, w.H = H ∧ Ok G w S b ∧ RepE G w env σ ∧ (whileL (fun env' S' => tstE C c env' S') (fun env' S' => exB C body env' S') m env S).wpb b (GoB G w D) (EX G E w), ⟨gas, w, S, env, b0, rfl, kw, r, h⟩, ?_⟩
  rintro m σ1 H1 ⟨w1, S1, env1, b1, rfl, k1, re1, h1⟩
  cases m with
  | zero => exact h1.elim
  | succ m =>
    have h1 : ((tstE C c env1 S1).bnd fun t => if t.1 then (exB C body env1 t.2).bnd fun r => match r.1 with
      | .nx => whileL (fun env' S' => tstE C c env' S') (fun env' S' => exB C body env' S') m r.2.1 r.2.2
      | .ct => whileL (fun env' S' => tstE C c env' S') (fun env' S' => exB C body env' S') m r.2.1 r.2.2
      | .bk => .ret (.nx, r.2.1, r.2.2)
      | .rt w => .ret (.rt w, r.2.1, r.2.2)
      else .ret (.nx, env1, t.2)).wpb b1 (GoB G w1 D) (EX G E w1) := h1
    rw [M.wpb_bnd] at h1
    refine ⟨w1, S1, env1, b1, rfl, k1, re1, (tstE C c env1 S1).wpb_mono h1 (fun x b2 h2 => ?_) fun _ _ _ q => q⟩
    intro w2 l2 k2
    have h3 := wle (G := G) (E := E) (Q1 := fun w => GoB G w D) l2 (fun _ _ q => GoB.le l2 q) h2
    obtain ⟨t, S2⟩ := x
    cases t with
    | false =>
      show (if false = true then _ else _)
      rw [if_neg Bool.false_ne_true]
      exact h3 w2 σ1 (Le.refl _) k2 (re1.le l2)
    | true =>
      show (if true = true then _ else _)
      rw [if_pos rfl]
      refine ⟨fun σ H => ∃ w S env b, w.H = H ∧ Ok G w S b ∧ RepE G w env σ ∧ (whileL (fun env' S' => tstE C c env' S') (fun env' S' => exB C body env' S') m env S).wpb b (GoB G w D) (EX G E w), fun σ' H' p' => ⟨m, Nat.lt_succ_self m, p'⟩, ?_⟩
      have h3 : ((exB C body env1 S2).bnd fun r => match r.1 with
        | .nx => whileL (fun env' S' => tstE C c env' S') (fun env' S' => exB C body env' S') m r.2.1 r.2.2
        | .ct => whileL (fun env' S' => tstE C c env' S') (fun env' S' => exB C body env' S') m r.2.1 r.2.2
        | .bk => .ret (.nx, r.2.1, r.2.2)
        | .rt w => .ret (.rt w, r.2.1, r.2.2)).wpb b2 (GoB G w2 D) (EX G E w2) := h3
      rw [M.wpb_bnd] at h3
      refine ⟨w2, S2, env1, b2, rfl, k2, re1.le l2, (exB C body env1 S2).wpb_mono h3 (fun z b4 h4 => ?_) fun _ _ _ q => q⟩
      intro w4 σ4 l4 k4 re4
      have h5 := wle (G := G) (E := E) (Q1 := fun w => GoB G w D) l4 (fun _ _ q => GoB.le l4 q) h4
      obtain ⟨fl, env4, S4⟩ := z
      cases fl with
      | nx => exact ⟨w4, S4, env4, b4, rfl, k4, re4, h5⟩
      | ct => exact ⟨w4, S4, env4, b4, rfl, k4, re4, h5⟩
      | bk => exact h5 w4 σ4 (Le.refl _) k4 re4
      | rt z => exact h5 w4 σ4 (Le.refl _) k4 re4
theorem s_setI {o i a : Ex} {eo ei e : Expr} {p1 pos : Pos} (s : SC X CX G C E k Γ) (ho : chE o Γ eo = true) (hi : chE i Γ ei = true) (ha : chE a Γ e = true) (hs : notSlice ei = true) : PS X (.Assign [.Subscript eo ei p1] e pos) (tB G E C (.setI o i a)) := by
  refine PS.imp (ps_asg ((snd a).1.e s ha) (pg_sub ((snd o).1.e s ho) ((snd i).1.e s hi) set_list (fun v => by cases ei <;> first | rfl | cases hs)) (by cases e <;> rfl) (by unfold swappedStores; cases e <;> rfl) rfl) fun D σ H ⟨w, S, env, b, hw, kw, r, h⟩ => ?_
  subst hw
  simp only [exB] at h
  refine tE_bndP (P := fun w => GoB G w D) (fun _ _ _ _ l q => GoB.le l q) kw r h fun x b1 w1 v1 l1 k1 r1 re1 h1 => ?_
  refine tE_bndP (P := fun w => GoB G w D) (fun _ _ _ _ l q => GoB.le l q) k1 re1 h1 fun y b2 w2 v2 l2 k2 r2 re2 h2 => ?_
  refine tE_bndP (P := fun w => GoB G w D) (fun _ _ _ _ l q => GoB.le l q) k2 re2 h2 fun z b3 w3 v3 l3 k3 r3 re3 h3 => ?_
  obtain ⟨v, ev, h3⟩ := wpb_opt.mp h3
  obtain ⟨j, ej, h3⟩ := wpb_opt.mp h3
  have rv := l3.rep (l2.rep r1)
  have rj := dat_ok r3 ej
  have ro := l3.rep r2
  split at h3
  · rename_i n j' ey
    rw [ey] at ro
    obtain ⟨q, e1, rfl⟩ := ro
    split at h3
    · rename_i ds hS
      split at h3
      · rename_i m hm
        obtain ⟨xs, q1, q2⟩ := k3.obs n q _ e1 hS
        have hl := q2.length
        refine ⟨q, xs, j', m, rfl, rep_int rj, q1, by rw [hl]; exact hm, ?_⟩
        exact h3 (w3.put q (xs.set m v1)) σ (le_put k3 e1) (ok_put k3 e1 hS (q2.set m (dat_ok rv ev))) (re3.le (le_put k3 e1))
      · exact h3.elim
    · exact h3.elim
  · exact h3.elim
theorem s_app {i : Nat} {a : Ex} {x : Str} {e : Expr} {p0 ap cp pos : Pos} (s : SC X CX G C E k Γ) (hl : ap.endLine = cp.line) (hN : Γ.N[i]? = some x) (hv : visB Γ.sc x = true) (ho : okName x = true) (ha : chE a Γ e = true) (hs : notStar e = true) : PS X (.Expr (.Call (.Attribute (.Name x p0) "append" ap) [e] [] cp) pos) (tB G E C (.app i a)) := by
  refine PS.imp (ps_expr (pe_bm PySem.F.plainAttrs_list PySem.F.slot_list_append PySem.F.type_list_append mt_append (pe_var (i := i) (by rw [s.N]; exact hN) (s.vis hv) (okName_ok ho).1 (okName_ok ho).2) (pa_cons ((snd a).1.e s ha) pa_nil (starOf hs)) rfl (by rw [starOf hs]; rfl) (by rw [hl]; exact beq_self_eq_true _) (starOf hs) rfl) rfl) fun D σ H ⟨w, S, env, b, hw, kw, r, h⟩ => ?_
  subst hw
  simp only [exB] at h
  split at h
  · rename_i n hn
    obtain ⟨u, e1, r1⟩ := r.at_ i _ hn
    obtain ⟨q, e2, rfl⟩ := r1
    split at h
    · rename_i ds0 hS0
      obtain ⟨xs0, z1, z2⟩ := kw.obs n q _ e2 hS0
      refine ⟨.ref q, e1, .inl ⟨rfl, xs0, .inl (.inl z1)⟩, ?_⟩
      refine tE_bndP (P := fun w => GoB G w D) (fun _ _ _ _ l q => GoB.le l q) kw r h fun y b2 w2 v2 l2 k2 r2 re2 h2 => ?_
      obtain ⟨v, ev, h2⟩ := wpb_opt.mp h2
      obtain ⟨q', e3, e4⟩ := l2.rep (G := G) (x := .r n) ⟨q, e2, rfl⟩
      cases e4
      split at h2
      · rename_i ds hS
        split at h2
        · rename_i hlt
          obtain ⟨xs, q1, q2⟩ := k2.obs n q _ e3 hS
          refine ⟨q, xs, v2, rfl, rfl, q1, by rw [q2.length, ← lim_eq]; exact hlt, ?_⟩
          refine h2 (w2.put q (xs ++ [v2])) σ (le_put k2 e3) (ok_put k2 e3 hS ?_) (re2.le (le_put k2 e3))
          exact q2.app (ds := ds) (es := [v]) ⟨v2, [], rfl, dat_ok r2 ev, rfl⟩
        · exact h2.elim
      · exact h2.elim
    · exact h.elim
  · exact h.elim
end
end RL
end

section
set_option Elab.async false
set_option linter.all false
set_option maxHeartbeats 8000000
/-! RL17b: several targets at once, items among them. Own work. -/
namespace RL
open PySem PySem.Spec PyProof.Rows L2

def GoX (G : Gam) (w : Wd) (Q : L2.St → Hp → Prop) : EnvD × Sto → Nat → Prop := fun r b' => ∀ w' σ', Le w w' → Ok G w' r.2 b' → RepE G w' r.1 σ' → Q σ' w'.H
theorem GoX.le {G : Gam} {w w1 : Wd} {Q : L2.St → Hp → Prop} (l : Le w w1) {r : EnvD × Sto} {b : Nat} (h : GoX G w Q r b) : GoX G w1 Q r b := fun w' σ' l' => h w' σ' (l.trans l')
def gX (G : Gam) (E : XK) (C : Calls) (t : Ex) : TG := fun v σ H Q => ∃ w S env b x, w.H = H ∧ Ok G w S b ∧ RepE G w env σ ∧ RepW G w x v ∧ (stoX C t x env S).wpb b (GoX G w Q) (EX G E w)
def gXs (G : Gam) (E : XK) (C : Calls) (ts : Ex) : TGs := fun vs σ H Q => ∃ w S env b xs, w.H = H ∧ Ok G w S b ∧ RepE G w env σ ∧ RepWs G w xs vs ∧ (stoXs C ts xs env S).wpb b (GoX G w Q) (EX G E w)
theorem PG.imp {X : Cx} {e : Expr} {t t' : TG} (h : PG X e t) (f : ∀ v σ H Q, t' v σ H Q → t v σ H Q) : PG X e t' := ⟨fun pins s σ H v u Q I r q => h.run pins s σ H v u Q I r (f v σ H Q q)⟩
theorem PGs.imp {X : Cx} {e : List Expr} {t t' : TGs} (h : PGs X e t) (f : ∀ v σ H Q, t' v σ H Q → t v σ H Q) : PGs X e t' := ⟨fun pins s σ H v u Q I r q => h.run pins s σ H v u Q I r (f v σ H Q q)⟩
section
variable {X : Cx} {CX : CXT} {G : Gam} {C : Calls} {E : XK} {k : Nat} {Γ : Nm}
theorem g_var {i : Nat} {x : Str} {p : Pos} (s : SC X CX G C E k Γ) (h : stB Γ i x = true) : PG X (.Name x p) (gX G E C (.var i)) := by
  obtain ⟨h1, h2, h3⟩ := s.store h
  refine PG.imp (pg_name s.nd h1 h2 h3) fun v σ H Q ⟨w, S, env, b, x', hw, kw, re, rx, q⟩ => ?_
  subst hw
  simp only [stoX] at q
  obtain ⟨env', e1, q⟩ := wpb_opt.mp q
  unfold setW at e1
  split at e1
  · cases Option.some.inj e1
    exact q w (σ.set i (some v)) (Le.refl _) kw (re.set rx)
  · cases e1
theorem g_sub {o i : Ex} {eo ei : Expr} {p : Pos} (s : SC X CX G C E k Γ) (ho : chE o Γ eo = true) (hi : chE i Γ ei = true) (hs : notSlice ei = true) : PG X (.Subscript eo ei p) (gX G E C (.sub o i)) := by
  refine PG.imp (pg_sub ((snd o).1.e s ho) ((snd i).1.e s hi) set_list (fun v => by cases ei <;> first | rfl | cases hs)) fun v σ H Q ⟨w, S, env, b, x, hw, kw, re, rx, q⟩ => ?_
  subst hw
  simp only [stoX] at q
  refine tE_bndP (P := fun w => GoX G w Q) (fun _ _ _ _ l q => GoX.le l q) kw re q fun y b2 w2 v2 l2 k2 r2 re2 h2 => ?_
  refine tE_bndP (P := fun w => GoX G w Q) (fun _ _ _ _ l q => GoX.le l q) k2 re2 h2 fun z b3 w3 v3 l3 k3 r3 re3 h3 => ?_
  obtain ⟨vd, ev, h3⟩ := wpb_opt.mp h3
  obtain ⟨j, ej, h3⟩ := wpb_opt.mp h3
  have rv := l3.rep (l2.rep rx)
  have rj := dat_ok r3 ej
  have ro := l3.rep r2
  split at h3
  · rename_i n j' ey
    rw [ey] at ro
    obtain ⟨q, e1, rfl⟩ := ro
    split at h3
    · rename_i ds hS
      split at h3
      · rename_i m hm
        obtain ⟨xs, q1, q2⟩ := k3.obs n q _ e1 hS
        have hl := q2.length
        refine ⟨q, xs, j', m, rfl, rep_int rj, q1, by rw [hl]; exact hm, ?_⟩
        exact h3 (w3.put q (xs.set m v)) σ (le_put k3 e1) (ok_put k3 e1 hS (q2.set m (dat_ok rv ev))) (re3.le (le_put k3 e1))
      · exact h3.elim
    · exact h3.elim
  · exact h3.elim
theorem chG_ok {t : Ex} {e : Expr} (s : SC X CX G C E k Γ) (h : chG t Γ e = true) : PG X e (gX G E C t) := by
  cases t
  case var i =>
    cases e
    case Name x p =>
      simp only [chG] at h
      exact g_var s h
    all_goals (simp only [chG] at h; cases h; done)
  case sub o i =>
    cases e
    case Subscript eo ei p =>
      simp only [chG, Bool.and_eq_true] at h
      exact g_sub s h.1.1 h.1.2 h.2
    all_goals (simp only [chG] at h; cases h; done)
  all_goals (simp only [chG] at h; cases h; done)
theorem chGs_each {ts : Ex} {es : List Expr} (h : chGs ts Γ es = true) (env : Env) : (assignEach es env).length = es.length ∧ (assignEach es env).findIdx? (·.1) = none := by
  induction ts generalizing es with
  | nil =>
    cases es with
    | nil => exact ⟨rfl, rfl⟩
    | cons e es => simp only [chGs] at h; cases h
  | cons t ts _ ih =>
    cases es with
    | nil => simp only [chGs] at h; cases h
    | cons e es =>
      simp only [chGs, Bool.and_eq_true] at h
      obtain ⟨h1, h2⟩ := ih h.2
      rw [asgEach_cons h.1.2]
      refine ⟨by rw [List.length_cons, List.length_cons, h1], ?_⟩
      rw [List.findIdx?_cons, h2]
      rfl
  | _ => simp only [chGs] at h; cases h
theorem chGs_ok {ts : Ex} {es : List Expr} (s : SC X CX G C E k Γ) (h : chGs ts Γ es = true) : PGs X es (gXs G E C ts) := by
  induction ts generalizing es with
  | nil =>
    cases es with
    | nil =>
      refine PGs.imp pgs_nil fun vs σ H Q ⟨w, S, env, b, xs, hw, kw, re, rx, q⟩ => ?_
      subst hw
      cases xs with
      | nil =>
        simp only [stoXs] at q
        exact ⟨rx, q w σ (Le.refl _) kw re⟩
      | cons x xs => simp only [stoXs] at q; exact q.elim
    | cons e es => simp only [chGs] at h; cases h
  | cons t ts _ ih =>
    cases es with
    | nil => simp only [chGs] at h; cases h
    | cons e es =>
      simp only [chGs, Bool.and_eq_true] at h
      refine PGs.imp (pgs_cons (chG_ok s h.1.1) (ih h.2) (by rw [asgEach_cons h.1.2]; rfl)) fun vs σ H Q ⟨w, S, env, b, xs, hw, kw, re, rx, q⟩ => ?_
      subst hw
      cases xs with
      | nil => simp only [stoXs] at q; exact q.elim
      | cons x xs =>
        obtain ⟨v, vs', rfl, r1, r2⟩ := rx
        simp only [stoXs] at q
        rw [M.wpb_bnd] at q
        refine ⟨v, vs', rfl, w, S, env, b, x, rfl, kw, re, r1, ?_⟩
        refine (stoX C t x env S).wpb_mono q (fun r b' q1 => ?_) fun _ _ _ q => q
        intro w' σ' l k' re'
        exact ⟨w', r.2, r.1, b', xs, rfl, k', re', l.repWs r2, wle (Q1 := fun w => GoX G w Q) l (fun _ _ q => GoX.le l q) q1⟩
  | _ => simp only [chGs] at h; cases h
/-- the values, then the stores -/
theorem tup_ofT {ts es : Ex} {fs : List Expr} {D : Ends} {σ : L2.St} {H : Hp} (hc : chL es Γ fs = true) (h : tB G E C (.asgT ts es) D σ H) : tA G E C es σ H fun vs H1 => ∃ w S env b xs, w.H = H1 ∧ Ok G w S b ∧ RepE G w env σ ∧ RepWs G w xs vs ∧ xs.length = fs.length ∧ xs.length ≤ lim ∧ (stoXs C ts xs env S).wpb b (GoX G w D.nx) (EX G E w) := by
  obtain ⟨w, S, env, b, hw, kw, r, h⟩ := h
  subst hw
  simp only [exB] at h
  refine tA_bndL (P := fun w => GoB G w D) (fun _ _ _ _ l q => GoB.le l q) hc kw r h fun y b1 w1 vs l1 k1 r1 re1 hn h1 => ?_
  split at h1
  · rename_i hl
    rw [M.wpb_bnd] at h1
    exact ⟨w1, y.2, env, b1, y.1, rfl, k1, re1, r1, hn, hl, (stoXs C ts y.1 env y.2).wpb_mono h1 (fun _ _ q => q) fun _ _ _ q => q⟩
  · exact h1.elim
theorem repWs_length {w : Wd} : ∀ {ws : List W} {xs : List V}, RepWs G w ws xs → xs.length = ws.length := fun h => RepWs.length h
theorem s_asgT {ts es : Ex} {tgs vs : List Expr} {kt k2 : Nat} {pt p2 pos : Pos} (s : SC X CX G C E k Γ) (he : chL es Γ vs = true) (hg : chGs ts Γ tgs = true) (hL : vs.length = tgs.length) (hn : nsB Γ.sc tgs vs = true) : PS X (.Assign [.Tuple tgs kt pt] (.Tuple vs k2 p2) pos) (tB G E C (.asgT ts es)) := by
  obtain ⟨h1, h2⟩ := chGs_each hg X.env
  refine PS.imp (ps_asg (pe_tup ((snd es).1.l s he)) (pg_tup s.calm (chGs_ok s hg) h1 h2) (by rfl) (swaps_ns (by rw [s.sc]; exact hn)) (by rw [asgEach_cons rfl]; rfl)) fun D σ H h => ?_
  refine tA_imp (tup_ofT he h) fun vs H1 ⟨w, S, env, b, xs, hw, kw, re, rx, hll, hl, q⟩ => ?_
  subst hw
  refine ⟨by rw [rx.length, ← lim_eq]; exact hl, fun p hp => ?_⟩
  have l := le_still (o := .tup vs) kw hp
  have hlen : vs.length = tgs.length := by rw [rx.length, hll, hL]
  exact ⟨p, vs, rfl, .inl (.inl upd_same), hlen, w.still p (.tup vs), S, env, b, xs, rfl, ok_still kw hp, re.le l, l.repWs rx, wle (Q1 := fun w => GoX G w D.nx) l (fun _ _ q => GoX.le l q) q⟩
theorem s_parT {i j : Nat} {es : Ex} {x y : Str} {vs : List Expr} {px py pt p2 pos : Pos} {kt k2 : Nat} (s : SC X CX G C E k Γ) (hk : kindF Γ.sc = true) (hi : Γ.N[i]? = some x) (hj : Γ.N[j]? = some y) (hx : localB Γ.sc x = true) (hy : localB Γ.sc y = true) (hij : i ≠ j)
    (he : chL es Γ vs = true) (hsw : swB Γ.sc [.Name x px, .Name y py] vs = true) : PS X (.Assign [.Tuple [.Name x px, .Name y py] kt pt] (.Tuple vs k2 p2) pos) (tB G E C (.asgT (.cons (.var i) (.cons (.var j) .nil)) es)) := by
  have hl : vs.length = 2 := by
    unfold swB at hsw
    simp only [Bool.and_eq_true] at hsw
    simpa using hsw.1.1.1.1.1.2
  obtain ⟨e, f, rfl⟩ : ∃ e f, vs = [e, f] := by
    rcases vs with _ | ⟨e, _ | ⟨f, _ | ⟨g, vs⟩⟩⟩
    · cases hl
    · cases hl
    · exact ⟨e, f, rfl⟩
    · simp at hl
  have hn : namesOf Γ.sc [.Name x px, .Name y py] = [x, y] := by
    have h := hsw
    unfold swB at h
    simp only [Bool.and_eq_true] at h
    have h4 := h.1.1.1.2
    unfold namesOf plainNm at h4 ⊢
    simp only [List.filterMap_cons, List.filterMap_nil] at h4 ⊢
    split at h4 <;> split at h4 <;> simp_all
    all_goals (try (split at h4 <;> simp_all))
  have hw := swaps_sw (env := X.env) (kt := kt) (k2 := k2) (pt := pt) (p2 := p2) (by rw [s.sc]; exact hk) (by rw [s.sc]; exact hsw)
  rw [s.sc, hn] at hw
  refine PS.imp (ps_par s.calm s.nd (by rw [s.N]; exact hi) (by rw [s.N]; exact hj) hij (by rw [s.sc]; exact localB_ok hx) (by rw [s.sc]; exact localB_ok hy) ((snd es).1.l s he) hw) fun D σ H h => ?_
  refine tA_imp (tup_ofT he h) fun vs H1 ⟨w, S, env, b, xs, hw, kw, re, rx, hll, hl, q⟩ => ?_
  subst hw
  rcases xs with _ | ⟨x1, _ | ⟨x2, _ | ⟨x3, xs⟩⟩⟩
  · cases hll
  · cases hll
  · obtain ⟨v1, vs1, rfl, r1, v2, vs2, rfl, r2, e3⟩ := rx
    have e3 : vs2 = [] := e3
    subst e3
    simp only [stoXs, stoX, opt_bnd, bnd_ret] at q
    obtain ⟨env1, e1, q⟩ := wpb_opt.mp q
    obtain ⟨env2, e2, q⟩ := wpb_opt.mp q
    unfold setW at e1 e2
    split at e1
    · cases Option.some.inj e1
      split at e2
      · cases Option.some.inj e2
        exact ⟨v1, v2, rfl, q w _ (Le.refl _) kw ((re.set r1).set r2)⟩
      · cases e2
    · cases e1
  · simp at hll
theorem s_parT3 {i j l : Nat} {es : Ex} {x y z : Str} {vs : List Expr} {px py pz pt p2 pos : Pos} {kt k2 : Nat} (s : SC X CX G C E k Γ) (hk : kindF Γ.sc = true) (hi : Γ.N[i]? = some x) (hj : Γ.N[j]? = some y) (hl : Γ.N[l]? = some z) (hx : localB Γ.sc x = true) (hy : localB Γ.sc y = true) (hz : localB Γ.sc z = true)
    (hij : i ≠ j) (hil : i ≠ l) (hjl : j ≠ l)
    (he : chL es Γ vs = true) (hsw : swB Γ.sc [.Name x px, .Name y py, .Name z pz] vs = true) : PS X (.Assign [.Tuple [.Name x px, .Name y py, .Name z pz] kt pt] (.Tuple vs k2 p2) pos) (tB G E C (.asgT (.cons (.var i) (.cons (.var j) (.cons (.var l) .nil))) es)) := by
  have hvl : vs.length = 3 := by
    unfold swB at hsw
    simp only [Bool.and_eq_true] at hsw
    simpa using hsw.1.1.1.1.1.2
  obtain ⟨e, f, g, rfl⟩ : ∃ e f g, vs = [e, f, g] := by
    rcases vs with _ | ⟨e, _ | ⟨f, _ | ⟨g, _ | ⟨g2, vs⟩⟩⟩⟩
    · cases hvl
    · cases hvl
    · cases hvl
    · exact ⟨e, f, g, rfl⟩
    · simp at hvl
  have hn : namesOf Γ.sc [.Name x px, .Name y py, .Name z pz] = [x, y, z] := by
    have h := hsw
    unfold swB at h
    simp only [Bool.and_eq_true] at h
    have h4 := h.1.1.1.2
    unfold namesOf plainNm at h4 ⊢
    simp only [List.filterMap_cons, List.filterMap_nil] at h4 ⊢
    split at h4 <;> split at h4 <;> simp_all
    all_goals (try (split at h4 <;> simp_all))
    all_goals (try (split at h4 <;> simp_all))
  have hw := swaps_sw (env := X.env) (kt := kt) (k2 := k2) (pt := pt) (p2 := p2) (by rw [s.sc]; exact hk) (by rw [s.sc]; exact hsw)
  rw [s.sc, hn] at hw
  refine PS.imp (ps_par3 s.calm s.nd (by rw [s.N]; exact hi) (by rw [s.N]; exact hj) (by rw [s.N]; exact hl) hij hil hjl (by rw [s.sc]; exact localB_ok hx) (by rw [s.sc]; exact localB_ok hy) (by rw [s.sc]; exact localB_ok hz) ((snd es).1.l s he) hw) fun D σ H h => ?_
  refine tA_imp (tup_ofT he h) fun vs H1 ⟨w, S, env, b, xs, hw, kw, re, rx, hll, hl, q⟩ => ?_
  subst hw
  rcases xs with _ | ⟨x1, _ | ⟨x2, _ | ⟨x3, _ | ⟨x4, xs⟩⟩⟩⟩
  · cases hll
  · cases hll
  · cases hll
  · obtain ⟨v1, vs1, rfl, r1, v2, vs2, rfl, r2, v3, vs3, rfl, r3, e3⟩ := rx
    have e3 : vs3 = [] := e3
    subst e3
    simp only [stoXs, stoX, opt_bnd, bnd_ret] at q
    obtain ⟨env1, e1, q⟩ := wpb_opt.mp q
    obtain ⟨env2, e2, q⟩ := wpb_opt.mp q
    obtain ⟨env3, e4, q⟩ := wpb_opt.mp q
    unfold setW at e1 e2 e4
    split at e1
    · cases Option.some.inj e1
      split at e2
      · cases Option.some.inj e2
        split at e4
        · cases Option.some.inj e4
          exact ⟨v1, v2, v3, rfl, q w _ (Le.refl _) kw (((re.set r1).set r2).set r3)⟩
        · cases e4
      · cases e2
    · cases e1
  · simp at hll
end
end RL
end

section
set_option Elab.async false
set_option linter.all false
set_option maxHeartbeats 8000000
/-! RL18: blocks mean what the interpreter says. Own work. -/
namespace RL
open PySem PySem.Spec PyProof.Rows L2
section
variable {X : Cx} {CX : CXT} {G : Gam} {C : Calls} {E : XK} {k : Nat} {Γ : Nm}
theorem s_par3 {i j l : Nat} {es : Ex} {x y z : Str} {e f g : Expr} {px py pz pt p2 pos : Pos} {kt k2 : Nat} (s : SC X CX G C E k Γ) (hk : kindF Γ.sc = true) (hi : Γ.N[i]? = some x) (hj : Γ.N[j]? = some y) (hl : Γ.N[l]? = some z) (hx : localB Γ.sc x = true) (hy : localB Γ.sc y = true) (hz : localB Γ.sc z = true)
    (hij : i ≠ j) (hil : i ≠ l) (hjl : j ≠ l)
    (he : chL es Γ [e, f, g] = true) (hsw : swB Γ.sc [.Name x px, .Name y py, .Name z pz] [e, f, g] = true) : PS X (.Assign [.Tuple [.Name x px, .Name y py, .Name z pz] kt pt] (.Tuple [e, f, g] k2 p2) pos) (tB G E C (.asgP (.cons (.name i) (.cons (.name j) (.cons (.name l) .nil))) (.tup es))) := by
  have hn : namesOf Γ.sc [.Name x px, .Name y py, .Name z pz] = [x, y, z] := by
    have h := hsw
    unfold swB at h
    simp only [Bool.and_eq_true] at h
    have h4 := h.1.1.1.2
    unfold namesOf plainNm at h4 ⊢
    simp only [List.filterMap_cons, List.filterMap_nil] at h4 ⊢
    split at h4 <;> split at h4 <;> simp_all
    all_goals (try (split at h4 <;> simp_all))
    all_goals (try (split at h4 <;> simp_all))
  have hw := swaps_sw (env := X.env) (kt := kt) (k2 := k2) (pt := pt) (p2 := p2) (by rw [s.sc]; exact hk) (by rw [s.sc]; exact hsw)
  rw [s.sc, hn] at hw
  refine PS.imp (ps_par3 s.calm s.nd (by rw [s.N]; exact hi) (by rw [s.N]; exact hj) (by rw [s.N]; exact hl) hij hil hjl (by rw [s.sc]; exact localB_ok hx) (by rw [s.sc]; exact localB_ok hy) (by rw [s.sc]; exact localB_ok hz) ((snd es).1.l s he) hw) fun D σ H h => ?_
  refine tA_imp (tup_of h) fun vs H1 ⟨w, S, b, env, ds, env', hw, kw, re, rl, hb, q⟩ => ?_
  subst hw
  have hl := bindPs_length _ (show bindPs (.cons (.name i) (.cons (.name j) (.cons (.name l) .nil))) ds env = some env' from hb)
  obtain ⟨d1, d2, d3, rfl⟩ : ∃ d1 d2 d3, ds = [d1, d2, d3] := by
    rcases ds with _ | ⟨d1, _ | ⟨d2, _ | ⟨d3, _ | ⟨d4, ds⟩⟩⟩⟩
    · cases hl
    · cases hl
    · cases hl
    · exact ⟨d1, d2, d3, rfl⟩
    · simp [Pat.wide] at hl
  simp only [RepL] at rl
  obtain ⟨v1, vs1, rfl, r1, v2, vs2, rfl, r2, v3, vs3, rfl, r3, rfl⟩ := rl
  simp only [bindP, bindPs] at hb
  split at hb
  · rename_i e1 hb1
    split at hb1
    · cases Option.some.inj hb1
      split at hb
      · rename_i e2 hb2
        split at hb2
        · cases Option.some.inj hb2
          split at hb
          · rename_i e3 hb3
            split at hb3
            · cases Option.some.inj hb3
              cases Option.some.inj hb
              exact ⟨v1, v2, v3, rfl, q _ (((re.set (x := .d d1) r1).set (x := .d d2) r2).set (x := .d d3) r3)⟩
            · cases hb3
          · cases hb
        · cases hb2
      · cases hb
    · cases hb1
  · cases hb
theorem isTupE_of {e : Expr} (h : isTupE e = true) : ∃ vs k p, e = .Tuple vs k p := by
  cases e <;> first | exact ⟨_, _, _, rfl⟩ | cases h
theorem snds (hk : kindF Γ.sc = true) (s : SC X CX G C E k Γ) (b : St) : (∀ {st : Stmt}, chS b Γ st = true → PS X st (tB G E C b)) ∧ (∀ {ss : List Stmt}, chB b Γ ss = true → PSs X ss (tB G E C b)) := by
  induction b with
  | nil =>
    refine ⟨fun {st} h => (by simp only [chS] at h; cases h), fun {ss} h => ?_⟩
    cases ss with
    | nil => exact s_nil
    | cons a b => simp only [chB] at h; cases h
  | cons a b iha ihb =>
    refine ⟨fun {st} h => (by simp only [chS] at h; cases h), fun {ss} h => ?_⟩
    cases ss with
    | nil => simp only [chB] at h; cases h
    | cons a b =>
      simp only [chB, Bool.and_eq_true] at h
      exact s_cons (iha.1 h.1) (ihb.2 h.2)
  | asg i a =>
    refine ⟨fun {st} h => ?_, fun {ss} h => by cases ss <;> (simp only [chB] at h; cases h)⟩
    cases st
    case Assign ts e pos =>
      rcases ts with _ | ⟨t, _ | ⟨t2, ts⟩⟩
      · simp only [chS] at h; cases h
      · cases t
        case Name x py =>
          simp only [chS, Bool.and_eq_true] at h
          obtain ⟨⟨h1, h2⟩, h3⟩ := h
          split at h3
          · exact s_asg s hk h1 h2 h3 (.inr ⟨_, _, _, _, _, _, _, rfl⟩)
          · rw [Bool.and_eq_true] at h3
            exact s_asg s hk h1 h2 h3.1 (.inl h3.2)
        all_goals (simp only [chS] at h; cases h; done)
      · cases t <;> (simp only [chS] at h; cases h; done)
    all_goals (simp only [chS] at h; cases h; done)
  | asgP p a =>
    refine ⟨fun {st} h => ?_, fun {ss} h => by cases ss <;> (simp only [chB] at h; cases h)⟩
    cases st
    case Assign ts e pos =>
      rcases ts with _ | ⟨t, _ | ⟨t2, ts⟩⟩
      · simp only [chS] at h; cases h
      · cases t
        case Tuple ts kt pt =>
          simp only [chS, Bool.and_eq_true] at h
          obtain ⟨⟨⟨h1, h2⟩, h3⟩, h4⟩ := h
          cases hT : isTupE e with
          | false => exact s_asgP s h1 h2 h3 rfl (swaps_not hT)
          | true =>
            obtain ⟨vs, k2, p2, rfl⟩ := isTupE_of hT
            have h4 : (nsB Γ.sc ts vs || (swB Γ.sc ts vs && parB a p ts Γ)) = true := h4
            rw [Bool.or_eq_true, Bool.and_eq_true] at h4
            rcases h4 with h4 | ⟨hs4, h5⟩
            · exact s_asgP s h1 h2 h3 rfl (swaps_ns (by rw [s.sc]; exact h4))
            · obtain ⟨fs, kt', p', e1, h6⟩ : ∃ fs kt' p', Expr.Tuple vs k2 p2 = .Tuple fs kt' p' ∧ (∀ {es : Ex}, a = .tup es → chL es Γ fs = true) := ⟨vs, k2, p2, rfl, fun {es} e => by
                subst e
                obtain ⟨fs, kt', p', e1, h7⟩ := inv_tup h2
                cases e1
                exact h7⟩
              cases e1
              unfold parB at h5
              split at h5
              · simp only [Bool.and_eq_true, decide_eq_true_eq] at h5
                obtain ⟨⟨⟨⟨g1, g2⟩, g3⟩, g4⟩, g5⟩ := h5
                have hl : vs.length = 2 := by
                  unfold swB at hs4
                  simp only [Bool.and_eq_true] at hs4
                  simpa using hs4.1.1.1.1.1.2
                obtain ⟨e, f, rfl⟩ : ∃ e f, vs = [e, f] := by
                  rcases vs with _ | ⟨e, _ | ⟨f, _ | ⟨g, vs⟩⟩⟩
                  · cases hl
                  · cases hl
                  · exact ⟨e, f, rfl⟩
                  · simp at hl
                exact s_par s hk g1 g2 g3 g4 g5 (h6 rfl) hs4
              · simp only [Bool.and_eq_true, decide_eq_true_eq] at h5
                obtain ⟨⟨⟨⟨⟨⟨⟨⟨g1, g2⟩, g3⟩, g4⟩, g5⟩, g6⟩, g7⟩, g8⟩, g9⟩ := h5
                have hl : vs.length = 3 := by
                  unfold swB at hs4
                  simp only [Bool.and_eq_true] at hs4
                  simpa using hs4.1.1.1.1.1.2
                obtain ⟨e, f, g, rfl⟩ : ∃ e f g, vs = [e, f, g] := by
                  rcases vs with _ | ⟨e, _ | ⟨f, _ | ⟨g, _ | ⟨g2, vs⟩⟩⟩⟩
                  · cases hl
                  · cases hl
                  · cases hl
                  · exact ⟨e, f, g, rfl⟩
                  · simp at hl
                exact s_par3 s hk g1 g2 g3 g4 g5 g6 g7 g8 g9 (h6 rfl) hs4
              · cases h5
        all_goals (simp only [chS] at h; cases h; done)
      · cases t <;> (simp only [chS] at h; cases h; done)
    all_goals (simp only [chS] at h; cases h; done)
  | ife c a b iha ihb =>
    refine ⟨fun {st} h => ?_, fun {ss} h => by cases ss <;> (simp only [chB] at h; cases h)⟩
    cases st
    case If e s1 s2 pos =>
      simp only [chS, Bool.and_eq_true] at h
      exact s_ife s h.1.1 (iha.2 h.1.2) (ihb.2 h.2)
    all_goals (simp only [chS] at h; cases h; done)
  | forr chk p wk src body ih =>
    refine ⟨fun {st} h => ?_, fun {ss} h => by cases ss <;> (simp only [chB] at h; cases h)⟩
    cases st
    case For tg it s1 s2 pos =>
      cases s2 with
      | nil =>
        simp only [chS, Bool.and_eq_true] at h
        exact s_for s h.1.1.1 h.1.1.2 h.1.2 (ih.2 h.2)
      | cons _ _ => simp only [chS] at h; cases h
    all_goals (simp only [chS] at h; cases h; done)
  | whl gas c body ih =>
    refine ⟨fun {st} h => ?_, fun {ss} h => by cases ss <;> (simp only [chB] at h; cases h)⟩
    cases st
    case While e s1 s2 pos =>
      cases s2 with
      | nil =>
        simp only [chS, Bool.and_eq_true] at h
        exact s_whl s h.1 (ih.2 h.2)
      | cons _ _ => simp only [chS] at h; cases h
    all_goals (simp only [chS] at h; cases h; done)
  | ret a =>
    refine ⟨fun {st} h => ?_, fun {ss} h => by cases ss <;> (simp only [chB] at h; cases h)⟩
    cases st
    case Return e pos =>
      cases e with
      | none => simp only [chS] at h; cases h
      | some e =>
        simp only [chS] at h
        exact s_ret s h
    all_goals (simp only [chS] at h; cases h; done)
  | retN =>
    refine ⟨fun {st} h => ?_, fun {ss} h => by cases ss <;> (simp only [chB] at h; cases h)⟩
    cases st
    case Return e pos =>
      cases e with
      | none => exact s_retN
      | some e => simp only [chS] at h; cases h
    all_goals (simp only [chS] at h; cases h; done)
  | expr a =>
    refine ⟨fun {st} h => ?_, fun {ss} h => by cases ss <;> (simp only [chB] at h; cases h)⟩
    cases st
    case Expr e pos =>
      simp only [chS, Bool.and_eq_true] at h
      exact s_expr s h.1 h.2
    all_goals (simp only [chS] at h; cases h; done)
  | brk =>
    refine ⟨fun {st} h => ?_, fun {ss} h => by cases ss <;> (simp only [chB] at h; cases h)⟩
    cases st
    case Break pos => exact s_brk
    all_goals (simp only [chS] at h; cases h; done)
  | cont =>
    refine ⟨fun {st} h => ?_, fun {ss} h => by cases ss <;> (simp only [chB] at h; cases h)⟩
    cases st
    case Continue pos => exact s_cont
    all_goals (simp only [chS] at h; cases h; done)
  | pass =>
    refine ⟨fun {st} h => ?_, fun {ss} h => by cases ss <;> (simp only [chB] at h; cases h)⟩
    cases st
    case Pass pos => exact PS.imp ps_pass fun D σ H q => tB_pass q
    case Expr e pos =>
      cases e
      case Constant c n p =>
        cases c
        case str x => exact PS.imp ps_doc fun D σ H q => tB_pass q
        all_goals (simp only [chS] at h; cases h; done)
      all_goals (simp only [chS] at h; cases h; done)
    all_goals (simp only [chS] at h; cases h; done)
  | never =>
    refine ⟨fun {st} h => PS.imp ps_never fun D σ H q => tB_never q, fun {ss} h => by cases ss <;> (simp only [chB] at h; cases h)⟩
  | asgT ts es =>
    refine ⟨fun {st} h => ?_, fun {ss} h => by cases ss <;> (simp only [chB] at h; cases h)⟩
    cases st
    case Assign tgs e pos =>
      rcases tgs with _ | ⟨t, _ | ⟨t2, tgs⟩⟩
      · simp only [chS] at h; cases h
      · cases t
        case Tuple tgs kt pt =>
          cases e
          case Tuple vs k2 p2 =>
            simp only [chS, Bool.and_eq_true, Bool.or_eq_true, decide_eq_true_eq] at h
            obtain ⟨⟨⟨h1, h2⟩, h3⟩, h4⟩ := h
            rcases h4 with h4 | ⟨h4, h5⟩
            · exact s_asgT s h1 h2 h3 h4
            · unfold parG at h5
              split at h5
              · simp only [Bool.and_eq_true, decide_eq_true_eq] at h5
                obtain ⟨⟨⟨⟨g1, g2⟩, g3⟩, g4⟩, g5⟩ := h5
                exact s_parT s hk g1 g2 g3 g4 g5 h1 h4
              · simp only [Bool.and_eq_true, decide_eq_true_eq] at h5
                obtain ⟨⟨⟨⟨⟨⟨⟨⟨g1, g2⟩, g3⟩, g4⟩, g5⟩, g6⟩, g7⟩, g8⟩, g9⟩ := h5
                exact s_parT3 s hk g1 g2 g3 g4 g5 g6 g7 g8 g9 h1 h4
              · cases h5
          all_goals (simp only [chS] at h; cases h; done)
        all_goals (simp only [chS] at h; cases h; done)
      · cases t <;> (simp only [chS] at h; cases h; done)
    all_goals (simp only [chS] at h; cases h; done)
  | setI o i a =>
    refine ⟨fun {st} h => ?_, fun {ss} h => by cases ss <;> (simp only [chB] at h; cases h)⟩
    cases st
    case Assign ts e pos =>
      rcases ts with _ | ⟨t, _ | ⟨t2, ts⟩⟩
      · simp only [chS] at h; cases h
      · cases t
        case Subscript eo ei p1 =>
          simp only [chS, Bool.and_eq_true] at h
          exact s_setI s h.1.1.1 h.1.1.2 h.1.2 h.2
        all_goals (simp only [chS] at h; cases h; done)
      · cases t <;> (simp only [chS] at h; cases h; done)
    all_goals (simp only [chS] at h; cases h; done)
  | app i a =>
    refine ⟨fun {st} h => ?_, fun {ss} h => by cases ss <;> (simp only [chB] at h; cases h)⟩
    cases st
    case Expr e pos =>
      cases e
      case Call fn es kws cp =>
        cases fn
        case Attribute o n ap =>
          cases o
          case Name x p0 =>
            rcases es with _ | ⟨e, _ | ⟨e2, es⟩⟩ <;> cases kws <;> first
              | (simp only [chS, Bool.and_eq_true, decide_eq_true_eq] at h
                 obtain ⟨⟨⟨⟨⟨⟨h1, h2⟩, h3⟩, h4⟩, h5⟩, h6⟩, h7⟩ := h
                 subst h1
                 exact s_app s h2 h3 h4 h5 h6 h7)
              | (simp only [chS] at h; cases h; done)
          all_goals (simp only [chS] at h; cases h; done)
        all_goals (simp only [chS] at h; cases h; done)
      all_goals (simp only [chS] at h; cases h; done)
    all_goals (simp only [chS] at h; cases h; done)
end
end RL
end

section
set_option Elab.async false
set_option linter.all false
set_option maxHeartbeats 8000000
/-! RL19: how many draws code makes at most. Own work. -/
namespace RL
open PySem

def pl : Option Nat → Option Nat → Option Nat
  | some a, some b => some (a + b)
  | _, _ => none
theorem pl_some {a b : Option Nat} {m : Nat} (h : pl a b = some m) : ∃ x y, a = some x ∧ b = some y ∧ m = x + y := by
  cases a with
  | none => cases h
  | some x =>
    cases b with
    | none => cases h
    | some y => exact ⟨x, y, rfl, rfl, (Option.some.inj h).symm⟩
/-- a loop's turns: none draws, or they are few -/
def lp (chk : Bool) : Option Nat → Option Nat
  | some 0 => some 0
  | some (m + 1) => if chk then some (lim * (m + 1)) else none
  | none => none
def gs (gas : Nat) : Option Nat → Option Nat
  | some m => some (gas * m)
  | none => none
def mE (c : Nat → Nat) : Ex → Option Nat
  | .nil => some 0
  | .cons h t => pl (mE c h) (mE c t)
  | .var _ => some 0
  | .dat _ => some 0
  | .glb _ _ => some 0
  | .bin _ a b => pl (mE c a) (mE c b)
  | .neg a => mE c a
  | .cmp _ a b => pl (mE c a) (mE c b)
  | .chain _ _ a b d => pl (mE c a) (pl (mE c b) (mE c d))
  | .and a b => pl (mE c a) (mE c b)
  | .or a b => pl (mE c a) (mE c b)
  | .not a => mE c a
  | .ite d a b => pl (mE c d) (pl (mE c a) (mE c b))
  | .call f as => pl (mE c as) (some (c f))
  | .callk f _ as ks => pl (mE c as) (pl (mE c ks) (some (c f)))
  | .calls f as => pl (mE c as) (some (c f))
  | .rev a => mE c a
  | .catM a b => pl (mE c a) (mE c b)
  | .repM a b => pl (mE c a) (mE c b)
  | .bi _ as => mE c as
  | .isi a _ => mE c a
  | .draw p n => pl (mE c p) (pl (mE c n) (some 1))
  | .me _ o as => pl (mE c o) (mE c as)
  | .sub a i => pl (mE c a) (mE c i)
  | .slice a lo hi => pl (mE c a) (pl (mE c lo) (mE c hi))
  | .lst _ es => mE c es
  | .tup es => mE c es
  | .comp _ chk _ _ src cond elt => pl (mE c src) (lp chk (pl (mE c cond) (mE c elt)))
  | .frz a => mE c a
  | .dct0 => some 0
def mB (c : Nat → Nat) : St → Option Nat
  | .nil => some 0
  | .cons s t => pl (mB c s) (mB c t)
  | .asg _ e => mE c e
  | .asgP _ e => mE c e
  | .ife d a b => pl (mE c d) (pl (mB c a) (mB c b))
  | .forr chk _ _ src body => pl (mE c src) (lp chk (mB c body))
  | .whl gas d body => gs gas (pl (mE c d) (mB c body))
  | .ret e => mE c e
  | .retN => some 0
  | .expr e => mE c e
  | .brk => some 0
  | .cont => some 0
  | .pass => some 0
  | .setI o i e => pl (mE c e) (pl (mE c o) (mE c i))
  | .app _ e => mE c e
  | .asgT ts es => pl (mE c es) (mE c ts)
  | .never => some 0
section
variable {C : Calls} {c : Nat → Nat}
theorem few_ret' {α : Type} {a : α} {m : Nat} : (M.ret a).few m := by simp only [M.few]
theorem few_stuck' {α : Type} {m : Nat} : (M.stuck : M α).few m := by simp only [M.few]
theorem few_ite {α : Type} {p : Prop} [Decidable p] {a b : M α} {m : Nat} (h1 : a.few m) (h2 : b.few m) : (if p then a else b).few m := by
  by_cases hp : p
  · rw [if_pos hp]; exact h1
  · rw [if_neg hp]; exact h2
theorem few_opt0 {α β : Type} (o : Option α) {k : α → M β} {m : Nat} (h : ∀ a, (k a).few m) : (M.opt o k).few m := M.few_opt o h
theorem compL_few {f : EnvD → Sto → M (Option D × Sto)} {pt : Pat} {env : EnvD} {m : Nat} (hf : ∀ env S, (f env S).few m) : ∀ (ds acc : List D) (S : Sto), (compL f pt env ds acc S).few (ds.length * m)
  | [], acc, S => by simp only [compL]; exact few_ret'
  | d :: ds, acc, S => by
    simp only [compL]
    cases hb : bindP pt d env with
    | none => exact few_stuck'
    | some env' =>
      have e : (d :: ds).length * m = m + ds.length * m := by rw [List.length_cons, Nat.succ_mul, Nat.add_comm]
      rw [e]
      refine M.few_bnd _ (M.few_noexc _ (hf env' S)) fun r => ?_
      cases r.1 with
      | none => exact compL_few hf ds acc r.2
      | some y => exact few_ite (compL_few hf ds _ r.2) few_stuck'
theorem forL_few {f : EnvD → Sto → M (Fl × EnvD × Sto)} {pt : Pat} {m : Nat} (hf : ∀ env S, (f env S).few m) : ∀ (ds : List D) (env : EnvD) (S : Sto), (forL f pt ds env S).few (ds.length * m)
  | [], env, S => by simp only [forL]; exact few_ret'
  | d :: ds, env, S => by
    simp only [forL]
    cases hb : bindP pt d env with
    | none => exact few_stuck'
    | some env' =>
      have e : (d :: ds).length * m = m + ds.length * m := by rw [List.length_cons, Nat.succ_mul, Nat.add_comm]
      rw [e]
      refine M.few_bnd _ (hf env' S) fun r => ?_
      cases r.1 with
      | nx => exact forL_few hf ds _ _
      | ct => exact forL_few hf ds _ _
      | bk => exact few_ret'
      | rt w => exact few_ret'
theorem whileL_few {g : EnvD → Sto → M (Bool × Sto)} {f : EnvD → Sto → M (Fl × EnvD × Sto)} {m n : Nat} (hg : ∀ env S, (g env S).few m) (hf : ∀ env S, (f env S).few n) : ∀ (gas : Nat) (env : EnvD) (S : Sto), (whileL g f gas env S).few (gas * (m + n))
  | 0, env, S => by simp only [whileL]; exact few_stuck'
  | gas + 1, env, S => by
    simp only [whileL]
    have e : (gas + 1) * (m + n) = m + (n + gas * (m + n)) := by rw [Nat.succ_mul]; omega
    rw [e]
    refine M.few_bnd _ (hg env S) fun t => few_ite (M.few_bnd _ (hf env t.2) fun r => ?_) few_ret'
    cases r.1 with
    | nx => exact whileL_few hg hf gas _ _
    | ct => exact whileL_few hg hf gas _ _
    | bk => exact few_ret'
    | rt w => exact few_ret'
theorem lp_few {chk : Bool} {its : List D} {o : Option Nat} {m : Nat} (h : lp chk o = some m) (hl : fewD chk its = true) : ∃ x, o = some x ∧ its.length * x ≤ m := by
  cases o with
  | none => cases h
  | some x =>
    refine ⟨x, rfl, ?_⟩
    cases x with
    | zero => rw [Nat.mul_zero]; exact Nat.zero_le _
    | succ x =>
      have h : (if chk then some (lim * (x + 1)) else none) = some m := h
      cases chk with
      | false => rw [if_neg Bool.false_ne_true] at h; cases h
      | true =>
        rw [if_pos rfl] at h
        have e := Option.some.inj h
        unfold fewD at hl
        have hl : its.length ≤ lim := by simpa using hl
        rw [← e]
        exact Nat.mul_le_mul_right _ hl
theorem dcall_few (hC : ∀ f ws S, (C f ws S).few (c f)) (f : Nat) (ds : List D) : (dcall C f ds).few (c f) := by
  unfold dcall
  exact M.few_mono _ (c := c f + 0) (M.few_bnd _ (hC f _ _) fun r => few_opt0 _ fun _ => few_ret') (Nat.le_refl _)
theorem newW_few {d : D} {S : Sto} {m : Nat} : (newW d S).few m := by
  unfold newW
  split
  · exact few_ret'
  · exact few_stuck'
mutual
theorem evE_few (hC : ∀ f ws S, (C f ws S).few (c f)) : ∀ (a : Ex) {m : Nat} {env : EnvD} {S : Sto}, mE c a = some m → (evE C a env S).few m
  | .nil, m, env, S, h => by simp only [evE]; exact few_stuck'
  | .cons _ _, m, env, S, h => by simp only [evE]; exact few_stuck'
  | .var i, m, env, S, h => by
    simp only [evE]
    split <;> first | exact few_ret' | exact few_stuck'
  | .dat _, m, env, S, h => by simp only [evE]; exact few_ret'
  | .glb _ _, m, env, S, h => by simp only [evE]; exact few_ret'
  | .bin o a b, m, env, S, h => by
    obtain ⟨x, y, h1, h2, rfl⟩ := pl_some h
    simp only [evE]
    refine M.few_bnd _ (evE_few hC a h1) fun u => M.few_mono _ (c := y + 0) (M.few_bnd _ (evE_few hC b h2) fun v => few_opt0 _ fun _ => few_opt0 _ fun _ => few_opt0 _ fun _ => few_ret') (Nat.le_refl _)
  | .neg a, m, env, S, h => by
    simp only [evE]
    exact M.few_mono _ (c := m + 0) (M.few_bnd _ (evE_few hC a h) fun v => few_opt0 _ fun _ => few_opt0 _ fun _ => few_ret') (Nat.le_refl _)
  | .cmp o a b, m, env, S, h => by
    obtain ⟨x, y, h1, h2, rfl⟩ := pl_some h
    simp only [evE]
    refine M.few_bnd _ (evE_few hC a h1) fun u => M.few_mono _ (c := y + 0) (M.few_bnd _ (evE_few hC b h2) fun v => few_opt0 _ fun _ => few_opt0 _ fun _ => few_opt0 _ fun _ => few_ret') (Nat.le_refl _)
  | .chain o p a b d, m, env, S, h => by
    obtain ⟨x, yy, h1, hx, rfl⟩ := pl_some h
    obtain ⟨y, z, h2, h3, rfl⟩ := pl_some hx
    simp only [evE]
    refine M.few_bnd _ (evE_few hC a h1) fun u => M.few_bnd _ (evE_few hC b h2) fun v => few_opt0 _ fun _ => few_opt0 _ fun _ => few_opt0 _ fun _ => few_ite ?_ few_ret'
    exact M.few_mono _ (c := z + 0) (M.few_bnd _ (evE_few hC d h3) fun q => few_opt0 _ fun _ => few_opt0 _ fun _ => few_opt0 _ fun _ => few_ret') (Nat.le_refl _)
  | .and a b, m, env, S, h => by
    obtain ⟨x, y, h1, h2, rfl⟩ := pl_some h
    simp only [evE]
    exact M.few_bnd _ (evE_few hC a h1) fun u => few_opt0 _ fun _ => few_opt0 _ fun _ => few_ite (evE_few hC b h2) few_ret'
  | .or a b, m, env, S, h => by
    obtain ⟨x, y, h1, h2, rfl⟩ := pl_some h
    simp only [evE]
    exact M.few_bnd _ (evE_few hC a h1) fun u => few_opt0 _ fun _ => few_opt0 _ fun _ => few_ite few_ret' (evE_few hC b h2)
  | .not a, m, env, S, h => by
    simp only [evE]
    exact M.few_mono _ (c := m + 0) (M.few_bnd _ (evE_few hC a h) fun v => few_opt0 _ fun _ => few_opt0 _ fun _ => few_ret') (Nat.le_refl _)
  | .ite d a b, m, env, S, h => by
    obtain ⟨x, yy, h1, hx, rfl⟩ := pl_some h
    obtain ⟨y, z, h2, h3, rfl⟩ := pl_some hx
    simp only [evE]
    exact M.few_bnd _ (evE_few hC d h1) fun u => few_opt0 _ fun _ => few_opt0 _ fun _ => few_ite ((evE C a env u.2).few_mono (evE_few hC a h2) (Nat.le_add_right _ _)) ((evE C b env u.2).few_mono (evE_few hC b h3) (Nat.le_add_left _ _))
  | .call f as, m, env, S, h => by
    obtain ⟨x, y, h1, h2, rfl⟩ := pl_some h
    cases h2
    simp only [evE]
    exact M.few_bnd _ (evL_few hC as h1) fun u => few_opt0 _ fun ds => M.few_mono _ (c := c f + 0) (M.few_bnd _ (dcall_few hC f ds) fun z => few_ret') (Nat.le_refl _)
  | .callk f _ as ks, m, env, S, h => by
    obtain ⟨x, yy, h1, hx, rfl⟩ := pl_some h
    obtain ⟨y, z, h2, h3, rfl⟩ := pl_some hx
    cases h3
    simp only [evE]
    exact M.few_bnd _ (evL_few hC as h1) fun u => M.few_bnd _ (evL_few hC ks h2) fun v => few_opt0 _ fun ds => few_opt0 _ fun es => few_opt0 _ fun fs => M.few_mono _ (c := c f + 0) (M.few_bnd _ (dcall_few hC f fs) fun z => few_ret') (Nat.le_refl _)
  | .calls f as, m, env, S, h => by
    obtain ⟨x, y, h1, h2, rfl⟩ := pl_some h
    cases h2
    simp only [evE]
    exact M.few_bnd _ (evL_few hC as h1) fun u => hC f _ _
  | .rev a, m, env, S, h => by
    simp only [evE]
    exact M.few_mono _ (c := m + 0) (M.few_bnd _ (evE_few hC a h) fun v => few_opt0 _ fun _ => few_opt0 _ fun _ => few_ret') (Nat.le_refl _)
  | .catM a b, m, env, S, h => by
    obtain ⟨x, y, h1, h2, rfl⟩ := pl_some h
    simp only [evE]
    refine M.few_bnd _ (evE_few hC a h1) fun u => M.few_mono _ (c := y + 0) (M.few_bnd _ (evE_few hC b h2) fun v => few_opt0 _ fun _ => few_opt0 _ fun _ => few_opt0 _ fun _ => newW_few) (Nat.le_refl _)
  | .repM a b, m, env, S, h => by
    obtain ⟨x, y, h1, h2, rfl⟩ := pl_some h
    simp only [evE]
    refine M.few_bnd _ (evE_few hC a h1) fun u => M.few_mono _ (c := y + 0) (M.few_bnd _ (evE_few hC b h2) fun v => few_opt0 _ fun _ => few_opt0 _ fun _ => few_opt0 _ fun _ => newW_few) (Nat.le_refl _)
  | .bi _ as, m, env, S, h => by
    simp only [evE]
    exact M.few_mono _ (c := m + 0) (M.few_bnd _ (evL_few hC as h) fun v => few_opt0 _ fun _ => few_opt0 _ fun _ => few_ret') (Nat.le_refl _)
  | .isi a _, m, env, S, h => by
    simp only [evE]
    exact M.few_mono _ (c := m + 0) (M.few_bnd _ (evE_few hC a h) fun v => few_opt0 _ fun _ => few_opt0 _ fun _ => few_ret') (Nat.le_refl _)
  | .draw p n, m, env, S, h => by
    obtain ⟨x, yy, h1, hx, rfl⟩ := pl_some h
    obtain ⟨y, z, h2, h3, rfl⟩ := pl_some hx
    cases h3
    simp only [evE]
    refine M.few_bnd _ (evE_few hC p h1) fun u => M.few_bnd _ (evE_few hC n h2) fun v => ?_
    split
    · exact ⟨0, rfl, fun _ _ _ => few_ret'⟩
    · exact few_stuck'
  | .me _ o as, m, env, S, h => by
    obtain ⟨x, y, h1, h2, rfl⟩ := pl_some h
    simp only [evE]
    exact M.few_bnd _ (evE_few hC o h1) fun u => few_opt0 _ fun _ => M.few_mono _ (c := y + 0) (M.few_bnd _ (evL_few hC as h2) fun v => few_opt0 _ fun _ => few_opt0 _ fun _ => few_opt0 _ fun _ => few_ret') (Nat.le_refl _)
  | .sub a i, m, env, S, h => by
    obtain ⟨x, y, h1, h2, rfl⟩ := pl_some h
    simp only [evE]
    exact M.few_bnd _ (evE_few hC a h1) fun u => M.few_mono _ (c := y + 0) (M.few_bnd _ (evE_few hC i h2) fun v => few_opt0 _ fun _ => few_opt0 _ fun _ => few_opt0 _ fun _ => few_ret') (Nat.le_refl _)
  | .slice a lo hi, m, env, S, h => by
    obtain ⟨x, yy, h1, hx, rfl⟩ := pl_some h
    obtain ⟨y, z, h2, h3, rfl⟩ := pl_some hx
    simp only [evE]
    exact M.few_bnd _ (evE_few hC a h1) fun u => M.few_bnd _ (evL_few hC lo h2) fun v => few_opt0 _ fun _ => few_opt0 _ fun _ => M.few_mono _ (c := z + 0) (M.few_bnd _ (evL_few hC hi h3) fun v => few_opt0 _ fun _ => few_opt0 _ fun _ => few_opt0 _ fun _ => few_opt0 _ fun _ => few_ret') (Nat.le_refl _)
  | .lst mm es, m, env, S, h => by
    simp only [evE]
    exact M.few_mono _ (c := m + 0) (M.few_bnd _ (evL_few hC es h) fun v => few_opt0 _ fun _ => few_ite (few_ite few_ret' few_ret') few_stuck') (Nat.le_refl _)
  | .tup es, m, env, S, h => by
    simp only [evE]
    exact M.few_mono _ (c := m + 0) (M.few_bnd _ (evL_few hC es h) fun v => few_opt0 _ fun _ => few_ite few_ret' few_stuck') (Nat.le_refl _)
  | .comp mm chk pt k src cond elt, m, env, S, h => by
    obtain ⟨x, y, h1, h2, rfl⟩ := pl_some h
    simp only [evE]
    refine M.few_bnd _ (evL_few hC src h1) fun u => few_opt0 _ fun ds => few_opt0 _ fun its => ?_
    by_cases hl : fewD chk its = true
    · rw [if_pos hl]
      obtain ⟨z, e, hz⟩ := lp_few h2 hl
      obtain ⟨z1, z2, e1, e2, rfl⟩ := pl_some e
      refine M.few_mono _ (c := its.length * (z1 + z2) + 0) (M.few_bnd _ (compL_few (fun env S => ?_) its [] u.2) fun r => few_ite few_ret' few_ret') hz
      exact M.few_bnd _ (evE_few hC cond e1) fun d => few_opt0 _ fun _ => few_opt0 _ fun _ => few_ite (M.few_mono _ (c := z2 + 0) (M.few_bnd _ (evE_few hC elt e2) fun v => few_opt0 _ fun _ => few_ret') (Nat.le_refl _)) few_ret'
    · rw [if_neg hl]
      exact few_stuck'
  | .dct0, m, env, S, h => by simp only [evE]; exact few_ret'
  | .frz a, m, env, S, h => by
    simp only [evE]
    refine M.few_mono _ (c := m + 0) (M.few_bnd _ (evE_few hC a h) fun v => ?_) (Nat.le_refl _)
    split
    · exact few_ret'
    · split
      · exact few_ret'
      · exact few_stuck'
theorem evL_few (hC : ∀ f ws S, (C f ws S).few (c f)) : ∀ (a : Ex) {m : Nat} {env : EnvD} {S : Sto}, mE c a = some m → (evL C a env S).few m
  | .nil, m, env, S, h => by simp only [evL]; exact few_ret'
  | .cons a b, m, env, S, h => by
    obtain ⟨x, y, h1, h2, rfl⟩ := pl_some h
    simp only [evL]
    exact M.few_bnd _ (evE_few hC a h1) fun u => M.few_mono _ (c := y + 0) (M.few_bnd _ (evL_few hC b h2) fun v => few_ret') (Nat.le_refl _)
  | .var _, m, env, S, h => by simp only [evL]; exact few_stuck'
  | .dat _, m, env, S, h => by simp only [evL]; exact few_stuck'
  | .glb _ _, m, env, S, h => by simp only [evL]; exact few_stuck'
  | .bin _ _ _, m, env, S, h => by simp only [evL]; exact few_stuck'
  | .neg _, m, env, S, h => by simp only [evL]; exact few_stuck'
  | .cmp _ _ _, m, env, S, h => by simp only [evL]; exact few_stuck'
  | .chain _ _ _ _ _, m, env, S, h => by simp only [evL]; exact few_stuck'
  | .and _ _, m, env, S, h => by simp only [evL]; exact few_stuck'
  | .or _ _, m, env, S, h => by simp only [evL]; exact few_stuck'
  | .not _, m, env, S, h => by simp only [evL]; exact few_stuck'
  | .ite _ _ _, m, env, S, h => by simp only [evL]; exact few_stuck'
  | .call _ _, m, env, S, h => by simp only [evL]; exact few_stuck'
  | .callk _ _ _ _, m, env, S, h => by simp only [evL]; exact few_stuck'
  | .calls _ _, m, env, S, h => by simp only [evL]; exact few_stuck'
  | .rev _, m, env, S, h => by simp only [evL]; exact few_stuck'
  | .catM _ _, m, env, S, h => by simp only [evL]; exact few_stuck'
  | .repM _ _, m, env, S, h => by simp only [evL]; exact few_stuck'
  | .bi _ _, m, env, S, h => by simp only [evL]; exact few_stuck'
  | .isi _ _, m, env, S, h => by simp only [evL]; exact few_stuck'
  | .draw _ _, m, env, S, h => by simp only [evL]; exact few_stuck'
  | .me _ _ _, m, env, S, h => by simp only [evL]; exact few_stuck'
  | .sub _ _, m, env, S, h => by simp only [evL]; exact few_stuck'
  | .slice _ _ _, m, env, S, h => by simp only [evL]; exact few_stuck'
  | .lst _ _, m, env, S, h => by simp only [evL]; exact few_stuck'
  | .tup _, m, env, S, h => by simp only [evL]; exact few_stuck'
  | .comp _ _ _ _ _ _ _, m, env, S, h => by simp only [evL]; exact few_stuck'
  | .frz _, m, env, S, h => by simp only [evL]; exact few_stuck'
  | .dct0, m, env, S, h => by simp only [evL]; exact few_stuck'
end
theorem tstE_few (hC : ∀ f ws S, (C f ws S).few (c f)) {a : Ex} {m : Nat} {env : EnvD} {S : Sto} (h : mE c a = some m) : (tstE C a env S).few m := by
  unfold tstE
  exact M.few_mono _ (c := m + 0) (M.few_bnd _ (evE_few hC a h) fun v => few_opt0 _ fun _ => few_opt0 _ fun _ => few_ret') (Nat.le_refl _)
theorem stoX_few (hC : ∀ f ws S, (C f ws S).few (c f)) {t : Ex} {x : W} {env : EnvD} {S : Sto} {m : Nat} (h : mE c t = some m) : (stoX C t x env S).few m := by
  cases t
  case var i =>
    simp only [stoX]
    exact few_opt0 _ fun _ => few_ret'
  case sub o i =>
    obtain ⟨y, z, h1, h2, rfl⟩ := pl_some h
    simp only [stoX]
    refine M.few_bnd _ (evE_few hC o h1) fun v => M.few_mono _ (c := z + 0) (M.few_bnd _ (evE_few hC i h2) fun q => few_opt0 _ fun _ => few_opt0 _ fun j => ?_) (Nat.le_refl _)
    split
    · split
      · split <;> first | exact few_ret' | exact few_stuck'
      · exact few_stuck'
    · exact few_stuck'
  all_goals (simp only [stoX]; exact few_stuck')
theorem stoXs_few (hC : ∀ f ws S, (C f ws S).few (c f)) (ts : Ex) : ∀ {xs : List W} {env : EnvD} {S : Sto} {m : Nat}, mE c ts = some m → (stoXs C ts xs env S).few m := by
  induction ts with
  | nil =>
    intro xs env S m h
    cases xs with
    | nil => simp only [stoXs]; exact few_ret'
    | cons x xs => simp only [stoXs]; exact few_stuck'
  | cons t ts _ ih =>
    intro xs env S m h
    obtain ⟨y, z, h1, h2, rfl⟩ := pl_some h
    cases xs with
    | nil => simp only [stoXs]; exact few_stuck'
    | cons x xs =>
      simp only [stoXs]
      exact M.few_bnd _ (stoX_few hC h1) fun r => ih h2
  | _ => intro xs env S m h; simp only [stoXs]; exact few_stuck'
theorem exB_few (hC : ∀ f ws S, (C f ws S).few (c f)) (b : St) : ∀ {m : Nat} {env : EnvD} {S : Sto}, mB c b = some m → (exB C b env S).few m := by
  induction b with
  | nil => intro m env S h; simp only [exB]; exact few_ret'
  | cons s t ihs iht =>
    intro m env S h
    obtain ⟨x, y, h1, h2, rfl⟩ := pl_some h
    simp only [exB]
    refine M.few_bnd _ (ihs h1) fun r => ?_
    cases r.1 with
    | nx => exact iht h2
    | _ => exact few_ret'
  | asg i e =>
    intro m env S h
    simp only [exB]
    exact M.few_mono _ (c := m + 0) (M.few_bnd _ (evE_few hC e h) fun v => few_opt0 _ fun _ => few_ret') (Nat.le_refl _)
  | asgP p e =>
    intro m env S h
    simp only [exB]
    refine M.few_mono _ (c := m + 0) (M.few_bnd _ (evE_few hC e h) fun v => few_opt0 _ fun d => ?_) (Nat.le_refl _)
    cases bindP p d env with
    | none => exact few_stuck'
    | some _ => exact few_ret'
  | ife d a b iha ihb =>
    intro m env S h
    obtain ⟨x, yy, h1, hx, rfl⟩ := pl_some h
    obtain ⟨y, z, h2, h3, rfl⟩ := pl_some hx
    simp only [exB]
    exact M.few_bnd _ (tstE_few hC h1) fun t => few_ite (M.few_mono _ (iha h2) (Nat.le_add_right _ _)) (M.few_mono _ (ihb h3) (Nat.le_add_left _ _))
  | forr chk p k src body ih =>
    intro m env S h
    obtain ⟨x, y, h1, h2, rfl⟩ := pl_some h
    simp only [exB]
    refine M.few_bnd _ (evL_few hC src h1) fun u => few_opt0 _ fun ds => few_opt0 _ fun its => ?_
    by_cases hl : fewD chk its = true
    · rw [if_pos hl]
      obtain ⟨z, e, hz⟩ := lp_few h2 hl
      exact M.few_mono _ (forL_few (fun env S => ih e) its env u.2) hz
    · rw [if_neg hl]
      exact few_stuck'
  | whl gas d body ih =>
    intro m env S h
    simp only [exB]
    unfold mB at h
    cases e : pl (mE c d) (mB c body) with
    | none => rw [e] at h; cases h
    | some z =>
      rw [e] at h
      have h : some (gas * z) = some m := h
      cases h
      obtain ⟨x, y, h1, h2, rfl⟩ := pl_some e
      exact whileL_few (fun env S => tstE_few hC h1) (fun env S => ih h2) gas env S
  | ret e =>
    intro m env S h
    simp only [exB]
    exact M.few_mono _ (c := m + 0) (M.few_bnd _ (evE_few hC e h) fun v => few_ret') (Nat.le_refl _)
  | retN => intro m env S h; simp only [exB]; exact few_ret'
  | expr e =>
    intro m env S h
    simp only [exB]
    exact M.few_mono _ (c := m + 0) (M.few_bnd _ (evE_few hC e h) fun v => few_ret') (Nat.le_refl _)
  | brk => intro m env S h; simp only [exB]; exact few_ret'
  | cont => intro m env S h; simp only [exB]; exact few_ret'
  | pass => intro m env S h; simp only [exB]; exact few_ret'
  | setI o i e =>
    intro m env S h
    obtain ⟨x, yy, h1, hx, rfl⟩ := pl_some h
    obtain ⟨y, z, h2, h3, rfl⟩ := pl_some hx
    simp only [exB]
    refine M.few_bnd _ (evE_few hC e h1) fun u => M.few_bnd _ (evE_few hC o h2) fun v => M.few_mono _ (c := z + 0) (M.few_bnd _ (evE_few hC i h3) fun q => few_opt0 _ fun _ => few_opt0 _ fun j => ?_) (Nat.le_refl _)
    split
    · split
      · split <;> first | exact few_ret' | exact few_stuck'
      · exact few_stuck'
    · exact few_stuck'
  | app i e =>
    intro m env S h
    simp only [exB]
    split
    · split
      · refine M.few_mono _ (c := m + 0) (M.few_bnd _ (evE_few hC e h) fun u => few_opt0 _ fun v => ?_) (Nat.le_refl _)
        split
        · exact few_ite few_ret' few_stuck'
        · exact few_stuck'
      · exact few_stuck'
    · exact few_stuck'
  | asgT ts es =>
    intro m env S h
    obtain ⟨x, y, h1, h2, rfl⟩ := pl_some h
    simp only [exB]
    refine M.few_bnd _ (evL_few hC es h1) fun u => few_ite ?_ few_stuck'
    exact M.few_mono _ (c := y + 0) (M.few_bnd _ (stoXs_few hC ts h2) fun r => few_ret') (Nat.le_refl _)
  | never => intro m env S h; simp only [exB]; exact few_stuck'
end
/-- the defs' draws are bounded by c -/
def costB (T : Nat → Option Fn) (c : Nat → Nat) : Prop := ∀ f g, T f = some g → ∃ m, mB c g.body = some m ∧ m ≤ c f
theorem run_few {T : Nat → Option Fn} {c : Nat → Nat} (h : costB T c) : ∀ (n f : Nat) (ws : List W) (S : Sto), (run T n f ws S).few (c f)
  | 0, f, ws, S => by simp only [run]; exact few_stuck'
  | n + 1, f, ws, S => by
    simp only [run]
    cases e : T f with
    | none => exact few_stuck'
    | some g =>
      obtain ⟨m, h1, h2⟩ := h f g e
      refine few_ite ?_ few_stuck'
      refine M.few_mono _ (c := m + 0) (M.few_bnd _ (exB_few (run_few h n) g.body h1) fun r => ?_) h2
      cases r.1 with
      | nx => exact few_ret'
      | rt w => exact few_ret'
      | _ => exact few_stuck'
end RL
end

section
set_option Elab.async false
set_option linter.all false
set_option maxHeartbeats 8000000
/-! RL20: a text's defs, all at once; a law's head. Own work. -/
namespace RL
open PySem PySem.Spec PyProof.Rows L2

structure Ent where
  x : Str
  st : Stmt
  fn : Fn
  N : List Str
  ps : List Str
structure Tbl where
  ents : List Ent
  gl : List (Str × D)
  kbs : List (Nat × Nat × List Str × List Nat)
  drw : Str
  blt : List Str
def Tbl.fns (t : Tbl) : List (Str × Nat × Nat) := t.ents.mapIdx fun i e => (e.x, i, e.ps.length)
def Tbl.nm (t : Tbl) (N : List Str) (sc : Scope) : Nm := ⟨N, sc, N, t.gl, t.fns, t.kbs, t.drw, t.blt⟩
def Tbl.T (t : Tbl) : Nat → Option Fn := fun i => (t.ents[i]?).map (·.fn)
def freeB : NameKind → Bool
  | .free => true
  | _ => false
def fsB (N ps : List Str) (sc : Scope) : Bool := kindF sc && !sc.isCoroutine && !sc.isGenerator && decide N.Nodup && decide (N.take ps.length = ps) && ps.all (fun x => locB sc x) && sc.names.all fun y => !freeB y.2
theorem fs_of {N ps : List Str} {sc : Scope} (h : fsB N ps sc = true) : FnScope N ps sc := by
  unfold fsB at h
  simp only [Bool.and_eq_true, Bool.not_eq_true', decide_eq_true_eq, List.all_eq_true] at h
  obtain ⟨⟨⟨⟨⟨⟨h1, h2⟩, h3⟩, h4⟩, h5⟩, h6⟩, h7⟩ := h
  refine ⟨kindF_ok h1, h2, h3, h4, h5, fun x hx => ?_, fun y hy e => ?_⟩
  · have q := h6 x hx
    unfold locB at q
    split at q
    · exact .inl (by assumption)
    · exact .inr (by assumption)
    · cases q
  · have q := h7 y hy
    rw [e] at q
    cases q
def Ent.ok (t : Tbl) (e : Ent) : Bool := fsB e.N e.ps (defScope e.st) && decide (e.fn.pars = e.ps.length) && decide (e.fn.slots = e.N.length) && chB e.fn.body (t.nm e.N (defScope e.st)) (defBody e.st)
def Tbl.ok (t : Tbl) : Bool := t.ents.all (Ent.ok t)

/-- what the heap says of the text's defs -/
structure Facts (K : PySem.W.Frag) (mg : Str → Option Value) (G : Gam) (t : Tbl) (fdA : Nat → FuncData) : Prop where
  fn : ∀ i e, t.ents[i]? = some e → mg e.x = some (.ref (G.fnA i)) ∧ Fun K e.x e.x e.st (G.fnA i) (fdA i) ∧ (∀ (s : Shared) (us : List Value), K.In s.heap → us.length = e.ps.length → BindsTo s (fdA i) ⟨us, []⟩ (e.ps.zip us)) ∧
    (∀ np ks perm, (i, np, ks, perm) ∈ t.kbs → ∀ (s : Shared) (us ws : List Value), K.In s.heap → us.length = np → ws.length = ks.length → us.length + ws.length = e.ps.length → BindsTo s (fdA i) ⟨us, ks.zip ws⟩ (e.ps.zip (permV perm (us ++ ws))))
  gl : ∀ x d, t.gl.lookup x = some d → ∃ u v, mg x = some u ∧ RelV v u ∧ ∀ p B, RepV G p B d v
  blt : ∀ x ∈ t.blt, mg x = none
/-- what exceptions do -/
structure CxOk (P : Program) (wo : World) (K : PySem.W.Frag) (mg : Str → Option Value) (base : Heap) (CX : CXT) : Prop where
  pas : ∀ N qual scope f cd A outer s H E, Passes CX (cxOf CX P wo K mg base N qual scope f cd A outer s H E) E
  pas0 : ∀ X1 : Cx, Passes CX X1 E0

section
variable {P : Program} {wo : World} {K : PySem.W.Frag} {mg : Str → Option Value} {base : Heap} {CX : CXT} {G : Gam} {t : Tbl} {fdA : Nat → FuncData}
/-- the drawing def keeps its promise -/
def DrawOk (P : Program) (wo : World) (K : PySem.W.Frag) (mg : Str → Option Value) (base : Heap) (CX : CXT) (G : Gam) (x : Str) : Prop :=
  x ≠ ("" : Str) → ∃ a fd ps, mg x = some (.ref a) ∧ PySem.W.keepIn K (.ref a) = true ∧ FnG P wo K mg base CX 1 a fd ps (spDraw G) ∧ ∀ (s : Shared) (us : List Value), K.In s.heap → us.length = 2 → BindsTo s fd ⟨us, []⟩ (ps.zip us)
theorem run_len {T : Nat → Option Fn} {n f : Nat} {g : Fn} (hT : T f = some g) {ds : List W} {S : Sto} {b : Nat} {Q : W × Sto → Nat → Prop} {E : Nat → List D → Nat → Prop} (h : (run T n f ds S).wpb b Q E) : ds.length = g.pars := by
  cases n with
  | zero => exact h.elim
  | succ n =>
    simp only [run, hT] at h
    split at h
    · assumption
    · exact h.elim
theorem fns_mem {x : Str} {f ar : Nat} (h : (x, f, ar) ∈ t.fns) : ∃ e, t.ents[f]? = some e ∧ e.x = x ∧ e.ps.length = ar := by
  unfold Tbl.fns at h
  rw [List.mem_mapIdx] at h
  obtain ⟨i, hi, e⟩ := h
  cases e
  exact ⟨_, List.getElem?_eq_getElem hi, rfl, rfl⟩
theorem ent_ok (ok : t.ok = true) {i : Nat} {e : Ent} (h : t.ents[i]? = some e) : FnScope e.N e.ps (defScope e.st) ∧ kindF (defScope e.st) = true ∧ e.fn.pars = e.ps.length ∧ e.fn.slots = e.N.length ∧ chB e.fn.body (t.nm e.N (defScope e.st)) (defBody e.st) = true := by
  unfold Tbl.ok at ok
  rw [List.all_eq_true] at ok
  have q := ok e (List.mem_of_getElem? h)
  unfold Ent.ok at q
  simp only [Bool.and_eq_true, decide_eq_true_eq] at q
  refine ⟨fs_of q.1.1.1, ?_, q.1.1.2, q.1.2, q.2⟩
  have z := q.1.1.1
  unfold fsB at z
  simp only [Bool.and_eq_true] at z
  exact z.1.1.1.1.1.1
/-- what a body at level n + 1 leans on -/
theorem lk_of {n : Nat} (ok : t.ok = true) (F : Facts K mg G t fdA) (dr : DrawOk P wo K mg base CX G t.drw) (ih : ∀ i e, t.ents[i]? = some e → FnG P wo K mg base CX (n + 1) (G.fnA i) (fdA i) e.ps (spC G (run t.T n) i e.ps.length)) (N : List Str) (sc : Scope) : Lk P wo K mg base CX G (run t.T n) (n + 1) (t.nm N sc) where
  fn := fun x f ar h => by
    obtain ⟨e, he, rfl, rfl⟩ := fns_mem h
    obtain ⟨h1, h2, h3, h4⟩ := F.fn f e he
    refine ⟨fdA f, e.ps, h1, h2.kp, ih f e he, h3, h4, fun ds S b Q E h => ?_⟩
    have hT : t.T f = some e.fn := by
      unfold Tbl.T
      rw [he]
      rfl
    rw [run_len hT h, (ent_ok ok he).2.2.1]
  drw := fun hd => by
    obtain ⟨a, fd, ps, h1, h2, h3, h4⟩ := dr hd
    exact ⟨a, fd, ps, h1, h2, h3.mono (Nat.le_add_left 1 n), h4⟩
  gl := F.gl
  blt := F.blt
theorem sc_of {n : Nat} (cx : CxOk P wo K mg base CX) {N ps : List Str} {qual : Str} {scope : Scope} {f : Addr} {cd : Value} {A : Around} {outer : List Env} {s : Shared} {H : Hp} {E : XK} (S : FnScope N ps scope) (C : Calls) (lk : Lk P wo K mg base CX G C n (t.nm N scope)) (hr : Room n (A.deeper (envOfC qual scope s.heap.objs.size f cd))) (hg : A.guards = some []) :
    SC (cxOf CX P wo K mg base N qual scope f cd A outer s H E) CX G C E n (t.nm N scope) where
  lk := lk
  N := rfl
  sc := rfl
  st := fun _ _ => rfl
  calm := rfl
  nd := S.nd
  gd := hg
  room := hr
  pas := cx.pas _ _ _ _ _ _ _ _ _ _
  own := PassesOwn.leaving
  pas0 := cx.pas0
theorem start_rep {w : Wd} {N : List Str} {ws : List W} {vs : List V} {m : Nat} (hm : m = N.length) (r : RepWs G w ws vs) (hl : ws.length ≤ N.length) : RepE G w (ws.map some ++ List.replicate (m - ws.length) none) (L2.start N vs) := by
  subst hm
  unfold L2.start
  have e := r.length
  have get : ∀ (ws : List W) (vs : List V) (i : Nat) (x : W), RepWs G w ws vs → ws[i]? = some x → ∃ v, vs[i]? = some v ∧ RepW G w x v := by
    intro ws
    induction ws with
    | nil => intro vs i x _ h; simp at h
    | cons y ws ih =>
      intro vs i x ⟨v, vs', e, r1, r2⟩ h
      subst e
      cases i with
      | zero => cases h; exact ⟨v, rfl, r1⟩
      | succ i =>
        have q := ih vs' i x r2 h
        exact q
  refine ⟨by simp [e], fun i x h => ?_⟩
  by_cases hi : i < ws.length
  · rw [List.getElem?_append_left (by simpa using hi), List.getElem?_map, List.getElem?_eq_getElem hi] at h
    cases h
    obtain ⟨v, e1, r1⟩ := get _ _ _ _ r (List.getElem?_eq_getElem hi)
    refine ⟨v, ?_, r1⟩
    rw [List.getElem?_append_left (by simpa [e] using hi), List.getElem?_map, e1]
    rfl
  · rw [List.getElem?_append_right (by simpa using hi)] at h
    have := List.mem_of_getElem? h
    rw [List.mem_replicate] at this
    cases this.2
/-- every def of the text keeps its promise -/
theorem tbl_ok (ok : t.ok = true) (cx : CxOk P wo K mg base CX) (F : Facts K mg G t fdA) (dr : DrawOk P wo K mg base CX G t.drw) : ∀ (n i : Nat) (e : Ent), t.ents[i]? = some e → FnG P wo K mg base CX (n + 1) (G.fnA i) (fdA i) e.ps (spC G (run t.T n) i e.ps.length)
  | 0, i, e, he => ⟨fun vs H Q E ⟨w, S, b, ds, _, _, _, _, h⟩ => h.elim, fun A outer s H args us vs Q E _ _ _ _ _ ⟨w, S, b, ds, _, _, _, _, h⟩ => h.elim⟩
  | n + 1, i, e, he => by
    obtain ⟨h1, h2, h3, h4⟩ := F.fn i e he
    obtain ⟨S, hk, e1, e2, ch⟩ := ent_ok ok he
    have lk := lk_of ok F dr (tbl_ok ok cx F dr n) e.N (defScope e.st)
    obtain ⟨oc, od, kV, doc, pm, an, cdv, ct, osl, e0, hlk, hcd⟩ := h2.ex
    rw [e0] at hlk ⊢
    refine fnG_of hlk hcd S (fun vs H Q E ⟨w, S0, b, ds, _, _, hl, r, _⟩ => by rw [r.length, hl]) fun A outer s H vs Q E hr hg ⟨w, S0, b, ds, hw, kw, hl, r, h⟩ => ?_
    subst hw
    have sc := sc_of (qual := e.x) (f := G.fnA i) (cd := cdv) (outer := outer) (s := s) (H := w.H) (E := E) cx S (run t.T n) lk hr hg
    refine ⟨_, (snds hk sc e.fn.body).2 ch, w, S0, _, b, rfl, kw, start_rep e2 r (by
      have := congrArg List.length S.pre
      rw [List.length_take] at this
      omega), ?_⟩
    have hT : t.T i = some e.fn := by
      unfold Tbl.T
      rw [he]
      rfl
    simp only [run, hT] at h
    rw [if_pos (by rw [hl, e1]), M.wpb_bnd] at h
    refine (exB (run t.T n) e.fn.body _ S0).wpb_mono h (fun z b' h1 => ?_) fun _ _ _ q => q
    intro w' σ' l k re
    obtain ⟨fl, env', S'⟩ := z
    cases fl with
    | nx => exact h1 w' .non l k (by simp only [RepW, RepV])
    | bk => exact h1.elim
    | ct => exact h1.elim
    | rt x =>
      intro v rv
      exact h1 w' v l k rv

/-- the same, told so that it is not unfolded by chance -/
structure Tri (C : Calls) (s : St) (env : EnvD) (S : Sto) (Q : Fl × EnvD × Sto → Prop) (E : Nat → List D → Prop) : Prop where
  run : (exB C s env S).wp Q E
theorem costs_of {t : Tbl} {c : Nat → Nat} (h : (t.ents.mapIdx fun i e => match mB c e.fn.body with
  | some m => decide (m ≤ c i)
  | none => false).all id = true) : costB t.T c := fun f g hf => by
  unfold Tbl.T at hf
  cases he : t.ents[f]? with
  | none => rw [he] at hf; cases hf
  | some e =>
    rw [he] at hf
    have hg : e.fn = g := Option.some.inj hf
    subst hg
    rw [List.all_eq_true] at h
    have hm : (match mB c e.fn.body with
      | some m => decide (m ≤ c f)
      | none => false) = true := h _ (List.mem_mapIdx.mpr ⟨f, (List.getElem?_eq_some_iff.mp he).1, by rw [(List.getElem?_eq_some_iff.mp he).2]⟩)
    cases hb : mB c e.fn.body with
    | none => rw [hb] at hm; cases hm
    | some m => rw [hb] at hm; exact ⟨m, rfl, by simpa using hm⟩
/-! ### the law's def -/
def spLaw (K : PySem.W.Frag) (n : Nat) : Sp := fun vs H Q _ => ∃ (a : Addr) (ns : List Int), vs = [.ref a] ∧ SqL K H a (ns.map V.int) ∧ ns.length ≤ n ∧ ∀ H', Q (.bl true) H'
/-- what the def that makes the pen promises -/
def spPen (K : PySem.W.Frag) (n : Nat) : Sp := fun vs H Q _ => ∃ (a : Addr) (ns : List Int), vs = [.ref a] ∧ SqL K H a (ns.map V.int) ∧ ns.length ≤ n ∧ ∀ (H' : Hp) (p c : Addr) (ms : List Int), H' c = some (.lst (ms.map V.int)) → H' p = some (.lst [.ref c, .int 0, .int 0]) → p ≠ c → Q (.ref p) H'
/-- a new pen's world -/
def Wd.new (p c : Addr) (ms : List Int) (H : Hp) : Wd := ⟨some p, [], fun x => if x = c then some (.lst (ms.map V.int)) else none, H⟩
theorem ok_new {p c : Addr} {ms : List Int} {H : Hp} (h1 : H c = some (.lst (ms.map V.int))) (h2 : H p = some (.lst [.ref c, .int 0, .int 0])) (h3 : p ≠ c) : Ok G (Wd.new p c ms H) [] bigN := by
  refine ⟨rfl, fun x u e => ?_, fun i j a e => by simp [Wd.new] at e, fun i a o e => by simp [Wd.new] at e, fun i a ds e => by simp [Wd.new] at e, fun a h => by simp [Wd.new] at h, fun q hq => by cases hq; exact ⟨c, ms, 0, 0, h2, if_pos rfl, Int.le_refl _, by omega, Int.le_refl _⟩, fun q hq => by cases hq; exact if_neg h3, fun q hq => by simp [Wd.new]⟩
  have e : (if x = c then some (HO.lst (ms.map V.int)) else none) = some u := e
  by_cases hx : x = c
  · rw [if_pos hx] at e
    cases e
    rw [hx]
    exact h1
  · rw [if_neg hx] at e
    cases e
/-- the law's def: the pen is made, then its body runs -/
theorem law_ok {m n j : Nat} {x0 xp py1 psp1 : Str} {stp : Stmt} {lw : Ent} {fa pa : Addr} {fd fdp : FuncData} {py p1 p2 p3 pos : Pos} {rest : List Stmt} {body : St} {c : Nat → Nat} {mm : Nat}
    (ok : t.ok = true) (cx : CxOk P wo K mg base CX) (F : Facts K mg G t fdA) (dr : DrawOk P wo K mg base CX G t.drw)
    (FL : Fun K lw.x lw.x lw.st fa fd) (hfs : fsB lw.N [x0] (defScope lw.st) = true) (h0 : lw.N[0]? = some x0) (hst : stB (t.nm lw.N (defScope lw.st)) j py1 = true)
    (hbody : defBody lw.st = .Assign [.Name py1 py] (.Call (.Name xp p1) [.Name x0 p2] [] p3) pos :: rest) (hv : visB (defScope lw.st) x0 = true) (ho : okName x0 = true) (hgp : glB (defScope lw.st) xp = true) (hop : okName xp = true)
    (hmp : mg xp = some (.ref pa)) (FP : Fun K xp xp stp pa fdp) (GP : FnG P wo K mg base CX (m + 1) pa fdp [psp1] (spPen K n)) (bp : ∀ (s : Shared) (us : List Value), K.In s.heap → us.length = 1 → BindsTo s fdp ⟨us, []⟩ ([psp1].zip us))
    (hrest : chB body (t.nm lw.N (defScope lw.st)) rest = true)
    (hcost : costB t.T c) (hmm : mB c body = some mm) (hle : mm ≤ bigN)
    (hlaw : Tri (run t.T m) body ((List.replicate lw.N.length none).set j (some (.d .pen))) [] (fun r => r.1 = .rt (.d (.bl true))) fun _ _ => False) :
    FnG P wo K mg base CX (m + 2) fa fd [x0] (spLaw K n) := by
  have S := fs_of hfs
  have hk : kindF (defScope lw.st) = true := by
    unfold fsB at hfs
    simp only [Bool.and_eq_true] at hfs
    exact hfs.1.1.1.1.1.1
  have lk := lk_of ok F dr (tbl_ok ok cx F dr m) lw.N (defScope lw.st)
  obtain ⟨oc, od, kV, doc, pm, an, cdv, ct, osl, e0, hlk, hcd⟩ := FL.ex
  rw [e0] at hlk ⊢
  refine fnG_of hlk hcd S (fun vs H Q E ⟨a, ns, e, _⟩ => by rw [e]; rfl) fun A outer s H vs Q E hr hg ⟨a, ns, ev, hS, hln, hQ⟩ => ?_
  subst ev
  have sc := sc_of (qual := lw.x) (f := fa) (cd := cdv) (outer := outer) (s := s) (H := H) (E := E) cx S (run t.T m) lk hr hg
  obtain ⟨g1, g2, g3⟩ := sc.store hst
  have pv : PE (cxOf CX P wo K mg base lw.N lw.x (defScope lw.st) fa cdv A outer s H E) (.Name x0 p2) (tVar 0) := pe_var (i := 0) h0 (sc.vis hv) (okName_ok ho).1 (okName_ok ho).2
  have pc : PE (cxOf CX P wo K mg base lw.N lw.x (defScope lw.st) fa cdv A outer s H E) (.Call (.Name xp p1) [.Name x0 p2] [] p3) (fun σ H' Q' => tVar 0 σ H' fun v H1 => spPen K n [v] H1 Q' E) := by
    refine ⟨fun pins st σ H' Q' I h => ?_⟩
    refine wpAny_Call_Name_kw (ld_glob I (sc.gl hgp) hmp ?_ (okName_ok hop).1)
    refine PySem.W.callWith_K (h₀ := base) I.ok.mod.kin FP.kp (thn ((pa_cons pv pa_nil rfl).run p3 pins st σ H' (fun vs H2 => spPen K n vs H2 Q' E) I h) fun us s1 ⟨vs, H1, I1, rv, q⟩ => ⟨I1.kIn, ?_⟩) rfl rfl
    have hl : us.length = 1 := by
      obtain ⟨_, _, e, _⟩ := q
      rw [← rv.length, e]
      rfl
    exact run_fnG GP sc.room sc.gd (bp s1 us I1.kIn hl) sc.pas I1 rv q
  rw [hbody]
  refine ⟨_, pss_cons (ps_set sc.nd g1 g2 pc (sw_plain rfl) g3) ((snds hk sc body).2 hrest), ?_⟩
  have hN : 0 < lw.N.length := (List.getElem?_eq_some_iff.mp h0).1
  have hs0 : (L2.start lw.N [V.ref a])[0]? = some (some (.ref a)) := rfl
  refine ⟨.ref a, hs0, a, ns, rfl, hS, hln, fun H' p c' ms e1 e2 e3 => ?_⟩
  refine ⟨Wd.new p c' ms H', [], (List.replicate lw.N.length none).set j (some (.d .pen)), bigN, rfl, ok_new e1 e2 e3, ⟨?_, fun i x h => ?_⟩, ?_⟩
  · unfold L2.start
    simp
    omega
  · by_cases hi : j = i
    · subst hi
      by_cases hl : j < (List.replicate lw.N.length (none : Option W)).length
      · rw [List.getElem?_set_self hl] at h
        cases h
        refine ⟨.ref p, ?_, by simp only [RepW, RepV]; exact ⟨p, rfl, rfl⟩⟩
        rw [List.getElem?_set_self]
        unfold L2.start
        simp at hl ⊢
        omega
      · rw [List.getElem?_eq_none (by simp at hl ⊢; omega)] at h
        cases h
    · rw [List.getElem?_set_ne hi] at h
      have := List.mem_of_getElem? h
      rw [List.mem_replicate] at this
      cases this.2
  · have hb := (exB (run t.T m) body ((List.replicate lw.N.length none).set j (some (.d .pen))) []).wpb_of hlaw.run (M.few_mono _ (exB_few (run_few hcost m) body hmm) hle)
    refine (exB (run t.T m) body _ []).wpb_mono hb (fun z b' h1 => ?_) fun _ _ _ q => q.elim
    intro w' σ' l k re
    obtain ⟨fl, env', S'⟩ := z
    have h1 : fl = .rt (.d (.bl true)) := h1
    subst h1
    intro v rv
    rw [rep_bl (show RepV G w'.p w'.B (.bl true) v from rv)]
    exact hQ _
end
end RL
end

section
set_option Elab.async false
set_option linter.all false
set_option maxHeartbeats 8000000
set_option maxRecDepth 100000
/-! RL21: from a law's promise to its row, where the promise is one for callers without guards. Own work. -/
namespace RL
open PySem PySem.Spec PyProof.Rows L2

/-- the script, if it is no object of the text -/
def scrO (vs : List Value) : Obj := { cls := .type "list", data := .seq vs.toArray }
def scrH (K : PySem.W.Frag) (a : Addr) (vs : List Value) (ns : List Int) : Hp := fun b => if b = a ∧ K.lookup a = none then some (.frz (scrO vs) (.lst (ns.map V.int))) else none
section
variable {K : PySem.W.Frag} {a : Addr} {vs : List Value} {ns : List Int}
theorem scr_or (b : Addr) : scrH K a vs ns b = none ∨ (b = a ∧ K.lookup a = none ∧ scrH K a vs ns b = some (.frz (scrO vs) (.lst (ns.map V.int)))) := by
  by_cases h : b = a ∧ K.lookup a = none
  · exact .inr ⟨h.1, h.2, if_pos h⟩
  · exact .inl (if_neg h)
theorem scr_sq {h : Heap} (KX : K.In h) (ha : h.get? a = some (scrO vs)) (hi : IntsAre vs ns) (hl : ns.length ≤ sizeLine) : SqL K (scrH K a vs ns) a (ns.map V.int) := by
  cases hk : K.lookup a with
  | none => exact .inl (.inr ⟨scrO vs, if_pos ⟨rfl, hk⟩⟩)
  | some o =>
    have e := (KX a o hk).symm.trans ha
    cases e
    exact .inr ⟨scrO vs, vs.toArray, _, hk, rfl, rfl, rfl, by rw [List.size_toArray, hi.length]; exact hl, by simpa using vals_ints hi⟩
theorem scr_env {P : Program} {w : World} {mg mb : Str → Option Value} {s : Shared} (KX : K.In s.heap) (hns : s.heap.Ns mainGlobals mg) (hb : s.heap.Ns builtinsNs mb) (hbb : ∀ x : Str, x ≠ "__name__" → mb x = bootBuiltins x) (hlim : s.heap.NoLimit) (hg : s.gens = #[])
    (ha : s.heap.get? a = some (scrO vs)) (hi : IntsAre vs ns) (hl : ns.length ≤ sizeLine) : K.In (hidT s.heap (scrH K a vs ns)) ∧ (hidT s.heap (scrH K a vs ns)).Ns mainGlobals mg ∧ Env0 P w K mg (hidT s.heap (scrH K a vs ns)) callerA [] s (scrH K a vs ns) := by
  have stay : ∀ {b : Addr} {o : Obj}, s.heap.get? b = some o → (b ≠ a ∨ K.lookup a ≠ none) → (hidT s.heap (scrH K a vs ns)).get? b = some o := fun {b o} e n => hidT_get e (by
    rcases scr_or (K := K) (a := a) (vs := vs) (ns := ns) b with h | ⟨h1, h2, _⟩
    · exact h
    · exact (n.elim (fun z => z h1) fun z => z h2).elim)
  have dict : ∀ {b : Addr} {m : Str → Option Value}, s.heap.Ns b m → (hidT s.heap (scrH K a vs ns)).Ns b m := fun {b m} ⟨o, es, ep, e, d, r⟩ => ⟨o, es, ep, stay e (.inl fun z => by
    rw [z, ha] at e
    cases e
    have d : (scrO vs).data = .dict es ep := d
    cases d), d, r⟩
  have inK : K.In (hidT s.heap (scrH K a vs ns)) := fun b o e => stay (KX b o e) (by
    by_cases hba : b = a
    · exact .inr fun z => by
        rw [hba, z] at e
        cases e
    · exact .inl hba)
  refine ⟨inK, dict hns, rfl, ⟨inK, dict hns, ⟨mb, dict hb, hbb⟩, ?_⟩, fun b o e => of_hidT e, Nat.le_of_eq (hidT_size _ _), True.intro, fun b hb => absurd hb List.not_mem_nil, fun b u e => ?_, .of_eq hg⟩
  · obtain ⟨mc, h1, h2⟩ := hlim
    exact ⟨mc, dict h1, h2⟩
  · rcases scr_or (K := K) (a := a) (vs := vs) (ns := ns) b with h | ⟨h1, h2, h3⟩
    · rw [h] at e
      cases e
    · rw [h3] at e
      cases e
      subst h1
      exact ⟨ha, by rw [List.length_map]; exact hl, vs, _, vals_ints hi, ha⟩
end
/-- a law's row from the promise of its def -/
theorem walkG {l : PySem.W.OpenLaw} {n k : Nat} {q : Program} {loose : List Str} {XP : (Str → Option Value) → Heap → Prop} {YP : World → Heap → Prop} {d : DefRec} {K : Params → PySem.W.Frag} {CX : CXT} {x : Str}
    (hn : l.most = some n) (hn2 : n ≤ sizeLine) (hdf : d.params.defaults = []) (hr : Room k callerA) (hY : ∀ (w : World) (h : Heap), YP w h → (K w.params).In h)
    (F : ∀ (w : World) (mg : Str → Option Value) (fa : Addr) (h : Heap), (K w.params).In h → h.Ns mainGlobals mg → mg d.name = some (.ref fa) →
      ∃ fd : FuncData, (∀ (s : Shared) (u : Value), BindsTo s fd ⟨[u], []⟩ [(x, u)]) ∧ ∀ base : Heap, (K w.params).In base → base.Ns mainGlobals mg → FnG l.prog w (K w.params) mg base CX k fa fd [x] (spLaw (K w.params) n))
    (hCX : ∀ (H : Hp) (s : Shared) (e : Value) (s' : Shared), CX [] H s E0 e s' → False) : PySem.W.WalkO q loose XP YP l.row.toRowW d [] (fun f vs => PySem.call f vs) := by
  refine Att.attach_call hn hdf fun w s₀ s₁ mg mb fa o pm cd doc a vs ns G Y ho hd hcd hmg hobj hints hlen hg => ?_
  have KX := hY w _ Y
  obtain ⟨fd, hb, hF⟩ := F w mg fa _ KX G.T.g hmg
  have hobj : s₁.heap.get? a = some (scrO vs) := hobj
  have hl := Nat.le_trans hlen hn2
  obtain ⟨g1, g2, e0⟩ := scr_env (P := l.prog) (w := w) KX G.T.g G.T.b G.T.builtins G.T.nolimit hg hobj hints hl
  refine codeAny_mono ((hF _ g1 g2).run callerA [] s₁ _ ⟨[.ref a], []⟩ [.ref a] [.ref a] (fun v _ => v = .bl true) E0 hr rfl e0 (hb s₁ (.ref a)) (.cons rfl .nil) ⟨a, ns, rfl, scr_sq KX hobj hints hl, hlen, fun _ => rfl⟩) fun r s' h => ?_
  cases r with
  | error e => exact (hCX _ s₁ e s' h).elim
  | ok fl =>
    cases fl with
    | next => exact False.elim h
    | brk => exact False.elim h
    | cont => exact False.elim h
    | ret u =>
      obtain ⟨v, H', os, bare, un, hok', r', q⟩ := h
      have q : v = .bl true := q
      subst q
      have e : u = Value.bool true := r'
      subst e
      refine ⟨rfl, OldK.of_keep fun b o e => ?_, os, bare⟩
      rcases scr_or (K := K w.params) (a := a) (vs := vs) (ns := ns) b with z | ⟨_, _, z⟩
      · exact un.keep b o e z List.not_mem_nil List.not_mem_nil
      · have e1 := (e0.hok b _ z).1
        rw [e] at e1
        cases e1
        exact (hok' b _ (un.frzs b _ _ z)).1
end RL
end

section
set_option Elab.async false
set_option linter.all false
set_option maxHeartbeats 8000000
set_option maxRecDepth 100000
/-! RL22: the pen's maker and the drawing def. Own work. -/
namespace RL
open PySem PySem.Spec PyProof.Rows L2

theorem cut_ints (ns : List Int) (lo hi : Option Int) : ∃ ms : List Int, cutV (ns.map V.int) lo hi = ms.map V.int ∧ ms.length ≤ ns.length := by
  unfold cutV
  rw [← List.map_drop, ← List.map_take]
  refine ⟨_, rfl, ?_⟩
  rw [List.length_take, List.length_drop]
  omega
section
variable {P : Program} {wo : World} {K : PySem.W.Frag} {mg : Str → Option Value} {base : Heap} {CX : CXT} {G : Gam}
/-- code with no calls -/
def noC : Calls := fun _ _ _ => .stuck
def bare (N : List Str) (sc : Scope) (blt : List Str) : Nm := ⟨N, sc, N, [], [], [], "", blt⟩
theorem lk_bare {N : List Str} {sc : Scope} {blt : List Str} (hb : ∀ x ∈ blt, mg x = none) (k : Nat) : Lk P wo K mg base CX G noC k (bare N sc blt) where
  fn := fun x f ar h => by simp [bare] at h
  drw := fun h => absurd rfl h
  gl := fun x d h => by simp [bare] at h
  blt := hb
theorem sc_bare {n : Nat} (cx : CxOk P wo K mg base CX) {N ps : List Str} {qual : Str} {scope : Scope} {f : Addr} {cd : Value} {A : Around} {outer : List Env} {s : Shared} {H : Hp} {E : XK} {blt : List Str} (hb : ∀ x ∈ blt, mg x = none) (S : FnScope N ps scope) (hr : Room n (A.deeper (envOfC qual scope s.heap.objs.size f cd))) (hg : A.guards = some []) :
    SC (cxOf CX P wo K mg base N qual scope f cd A outer s H E) CX G noC E n (bare N scope blt) where
  lk := lk_bare hb n
  N := rfl
  sc := rfl
  st := fun _ _ => rfl
  calm := rfl
  nd := S.nd
  gd := hg
  room := hr
  pas := cx.pas _ _ _ _ _ _ _ _ _ _
  own := PassesOwn.leaving
  pas0 := cx.pas0

/-! ### the drawing def -/
/-- the pen as a list that may change -/
def Wd.open (w : Wd) (q : Addr) : Wd := ⟨none, [q], w.B, w.H⟩
theorem ok_open {w : Wd} {S : Sto} {b : Nat} {q c : Addr} {ns : List Int} {t g : Int} (k : Ok G w S b) (hq : w.p = some q) (h1 : w.H q = some (.lst [.ref c, .int t, .int g])) (h2 : w.B c = some (.lst (ns.map V.int))) : Ok G (w.open q) [.lst [.lst (ns.map D.int), .int t, .int g]] 0 := by
  refine ⟨rfl, k.sub, fun i j a e1 e2 => ?_, fun i a o e1 e2 => ?_, fun i a ds e1 e2 => ?_, fun a ha => ?_, fun q' hq' => (by cases hq'), fun q' hq' => (by cases hq'), fun q' hq' => (by cases hq')⟩
  · have h1 := (List.getElem?_eq_some_iff.mp e1).1
    have h2 := (List.getElem?_eq_some_iff.mp e2).1
    simp [Wd.open] at h1 h2
    omega
  · have h3 := (List.getElem?_eq_some_iff.mp e1).1
    have h3 : i < 1 := h3
    have hi : i = 0 := by omega
    subst hi
    cases e1
    cases e2
    refine ⟨_, h1, .ref c, [.int t, .int g], rfl, ?_, .int t, [.int g], rfl, by simp only [RepV], .int g, [], rfl, by simp only [RepV], by simp only [RepL]⟩
    simp only [RepV]
    refine ⟨c, ns.map V.int, rfl, h2, ?_⟩
    clear h1 h2
    induction ns with
    | nil => simp only [List.map_nil, RepL]
    | cons n ns ih => exact ⟨.int n, ns.map V.int, rfl, by simp only [RepV], ih⟩
  · have h3 := (List.getElem?_eq_some_iff.mp e1).1
    have h3 : i < 1 := h3
    have hi : i = 0 := by omega
    subst hi
    cases e1
    exact k.pB _ hq
  · have ha : a ∈ [q] := ha
    rw [List.mem_singleton.mp ha]
    exact ⟨_, h1⟩
/-- what the drawing def's code must do -/
def DrawLaw (m : Nat) (b : St) : Prop := ∀ (n t g : Int) (ns : List Int), 0 < n → n < 2 ^ 1000 → 0 ≤ t → t < 2 ^ 1000 → 0 ≤ g →
  Tri noC b ([some (.r 0), some (.d (.int n))] ++ List.replicate m none) [.lst [.lst (ns.map D.int), .int t, .int g]]
    (fun r => ∃ v t' g' : Int, r.1 = .rt (.d (.int v)) ∧ 0 ≤ v ∧ v < n ∧ r.2.2[0]? = some (.lst [.lst (ns.map D.int), .int t', .int g']) ∧ 0 ≤ t' ∧ t' ≤ t + 1 ∧ 0 ≤ g') fun _ _ => False
theorem ints_back {p : Option Addr} {B : Hp} : ∀ {ns : List Int} {xs : List V}, RepL G p B (ns.map D.int) xs → xs = ns.map V.int
  | [], xs, h => by simpa only [List.map_nil, RepL] using h
  | n :: ns, xs, h => by
    simp only [List.map_cons, RepL] at h
    obtain ⟨v, vs, e, r1, r2⟩ := h
    rw [e, rep_int r1, ints_back r2]
    rfl
theorem draw_ok {a : Addr} {fd : FuncData} {x : Str} {st : Stmt} {N ps blt : List Str} {b : St} (cx : CxOk P wo K mg base CX) (F : Fun K x x st a fd) (hps : ps.length = 2) (hN : 2 ≤ N.length) (hfs : fsB N ps (defScope st) = true) (hb : ∀ x ∈ blt, mg x = none)
    (ch : chB b (bare N (defScope st) blt) (defBody st) = true) (hc : mB (fun _ => 0) b = some 0) (law : DrawLaw (N.length - 2) b) : FnG P wo K mg base CX 1 a fd ps (spDraw G) := by
  have S := fs_of hfs
  have hk : kindF (defScope st) = true := by
    unfold fsB at hfs
    simp only [Bool.and_eq_true] at hfs
    exact hfs.1.1.1.1.1.1
  obtain ⟨oc, od, kV, doc, pm, an, cdv, ct, osl, e0, hlk, hcd⟩ := F.ex
  rw [e0] at hlk ⊢
  refine fnG_of hlk hcd S (fun vs H Q E ⟨w, S1, b1, n, _, _, ⟨q, _, e⟩, _⟩ => by rw [e, hps]; rfl) fun A outer s H vs Q E hr hg ⟨w, S1, b1, n, hw, kw, ⟨q, hq, ev⟩, h0, h1, hQ⟩ => ?_
  subst hw ev
  obtain ⟨c, ns, t, g, p1, p2, p3, p4, p5⟩ := kw.pen q hq
  have sc := sc_bare (G := G) (qual := x) (f := a) (cd := cdv) (outer := outer) (s := s) (H := w.H) (E := E) cx hb S hr hg
  have ko := ok_open kw hq p1 p2
  have N2 : N.length = 2 + (N.length - 2) := by omega
  refine ⟨_, (snds hk sc b).2 ch, w.open q, _, [some (.r 0), some (.d (.int n))] ++ List.replicate (N.length - 2) none, 0, rfl, ko, ⟨?_, fun i y h => ?_⟩, ?_⟩
  · unfold L2.start
    simp
  · rcases i with _ | _ | i
    · cases h
      exact ⟨.ref q, rfl, q, rfl, rfl⟩
    · cases h
      exact ⟨.int n, rfl, by simp only [RepW, RepV]⟩
    · have h : (List.replicate (N.length - 2) (none : Option W))[i]? = some (some y) := h
      have := List.mem_of_getElem? h
      rw [List.mem_replicate] at this
      cases this.2
  · have hm := (exB noC b ([some (.r 0), some (.d (.int n))] ++ List.replicate (N.length - 2) none) [.lst [.lst (ns.map D.int), .int t, .int g]]).wpb_of (law n t g ns h0 h1 p3 (by
      have e : ((2 : Int) ^ 1000) = ((bigN : Nat) : Int) := by decide +kernel
      rw [e]
      omega) p5).run (exB_few (c := fun _ => 0) (fun f ds S => few_stuck') b hc)
    refine (exB noC b _ _).wpb_mono hm (fun z b' h2 => ?_) fun _ _ _ q => q.elim
    intro w' σ' l k re
    obtain ⟨fl, env', S'⟩ := z
    obtain ⟨v, t', g', e1, v0, v1, e2, t0, t1, g0⟩ := h2
    have e1 : fl = .rt (.d (.int v)) := e1
    subst e1
    intro vv rv
    rw [rep_int (show RepV G w'.p w'.B (.int v) vv from rv)]
    have e2 : S'[0]? = some (.lst [.lst (ns.map D.int), .int t', .int g']) := e2
    have eρ : w'.ρ[0]? = some q := by
      obtain ⟨m, em, _⟩ := l.ρ
      rw [em]
      rfl
    obtain ⟨xs, hx, rx⟩ := k.obs 0 q _ eρ e2
    have offq := k.off 0 q _ eρ e2
    simp only [RepL] at rx
    obtain ⟨u1, us1, rfl, q1, u2, us2, rfl, q2, u3, us3, rfl, q3, rfl⟩ := rx
    obtain ⟨c', ys, rfl, hc', ry⟩ := rep_lst q1
    have ey := ints_back ry
    subst ey
    rw [rep_int q2, rep_int q3] at hx
    have hH : ∀ y o, w.H y = some o → y ≠ q → w'.H y = some o := fun y o e hy => l.H y o e (fun hm => hy (List.mem_singleton.mp hm)) (fun z => by cases z)
    have lw : Le w ⟨some q, w.ρ, w'.B, w'.H⟩ := by
      refine ⟨hq.symm, ⟨[], by show w.ρ = w.ρ ++ []; simp, fun _ h => by simp at h⟩, l.B, fun y o e => ?_, fun y o e _ hy => hH y o e (fun z => hy (by rw [hq, z])), l.T⟩
      rcases l.Bn y o e with h | h | h
      · exact .inl h
      · exact .inr (.inl h)
      · have h : y ∈ [q] := h
        rw [List.mem_singleton.mp h, offq] at e
        cases e
    have hρ : ∀ y ∈ w.ρ, y ≠ q := fun y hy z => kw.pρ q hq (by rw [← z]; exact hy)
    refine hQ v ⟨some q, w.ρ, w'.B, w'.H⟩ v0 v1 lw ⟨kw.len, k.sub, kw.nd, fun i y ob e3 e4 => ?_, fun i y ds e3 e4 => ?_, fun y hy => ?_, fun q' hq' => ?_, fun q' hq' => ?_, fun q' hq' => ?_⟩
    · have hy := List.mem_of_getElem? e3
      obtain ⟨o, ho⟩ := kw.tr y hy
      exact ObRep.mono (w := w) hq.symm l.B ((hH y o ho (hρ y hy)).trans ho.symm) (kw.obs i y ob e3 e4)
    · have hy := List.mem_of_getElem? e3
      obtain ⟨o, ho⟩ := kw.tr y hy
      show w'.B y = none
      cases hB : w'.B y with
      | none => rfl
      | some u =>
        rcases l.Bn y u hB with h | h | h
        · have h : w.B y = some u := h
          rw [kw.off i y ds e3 e4] at h
          cases h
        · have h : w.H y = none := h
          rw [ho] at h
          cases h
        · exact absurd (List.mem_singleton.mp h) (hρ y hy)
    · obtain ⟨o, ho⟩ := kw.tr y hy
      exact ⟨o, hH y o ho (hρ y hy)⟩
    · cases hq'
      exact ⟨c', ns, t', g', hx, hc', t0, by
        have : t' + (b1 : Int) ≤ (bigN : Int) := by omega
        exact this, g0⟩
    · cases hq'
      exact offq
    · cases hq'
      exact kw.pρ q hq

/-! ### the pen's maker -/
theorem pen_end {H0 : Hp} {D1 p : Addr} {ms : List Int} {Q : VK} (hQ : ∀ (H' : Hp) (p c : Addr) (ms : List Int), H' c = some (.lst (ms.map V.int)) → H' p = some (.lst [.ref c, .int 0, .int 0]) → p ≠ c → Q (.ref p) H') (h1 : H0 D1 = some (.lst (ms.map V.int))) (hp : H0 p = none) :
    Q (.ref p) (upd H0 p (.lst [.ref D1, .int 0, .int 0])) := by
  have hne : D1 ≠ p := ne_of_none h1 hp
  exact hQ _ p D1 ms (by rw [upd_ne hne]; exact h1) upd_same hne.symm
/-- the pen by a comprehension -/
theorem pen_okA {a : Addr} {fd : FuncData} {x y1 y2 : Str} {st : Stmt} {n m : Nat} {scope : Scope} {p1 p2 p3 p4 p5 p6 p7 p8 p9 p10 p11 p12 p13 : Pos} {k1 k2 k3 : Nat} {mi : Int} (cx : CxOk P wo K mg base CX) (F : Fun K x x st a fd) (hfs : fsB [y1, y2] [y1] (defScope st) = true)
    (hbody : defBody st = [.Return (some (.List [.ListComp (.Call (.Name "int" p1) [.Name y2 p2] [] p3) [⟨.Name y2 p4, .Subscript (.Name y1 p5) (.Slice none (some (.Constant (.int mi) k1 p6)) none p7) p8, [], 0⟩] scope p9, .Constant (.int 0) k2 p10, .Constant (.int 0) k3 p11] p12)) p13])
    (hn : n ≤ sizeLine) (hb : ∀ x ∈ [("int" : Str)], mg x = none)
    (hv : visB (defScope st) y1 = true) (ho : okName y1 = true) (ho2 : okName y2 = true) (hbl : blkC [y1, y2] (defScope st) scope [(y2, 1)] = true) (hg2 : glB (relS scope (defScope st)) "int" = true) (hv2 : visB (relS scope (defScope st)) y2 = true) (hl2 : localB (relS scope (defScope st)) y2 = true) :
    FnG P wo K mg base CX 1 a fd [y1] (spPen K n) := by
  have S := fs_of hfs
  obtain ⟨oc, od, kV, doc, pm, an, cdv, ct, osl, e0, hlk, hcd⟩ := F.ex
  rw [e0] at hlk ⊢
  refine fnG_of hlk hcd S (fun vs H Q E ⟨a, ns, e, _⟩ => by rw [e]; rfl) fun A outer s H vs Q E hr hg ⟨a', ns, ev, hS, hln, hQ⟩ => ?_
  subst ev
  have sc := sc_bare (G := ⟨K, fun _ => 0, fun _ => .none⟩) (blt := ["int"]) (qual := x) (f := a) (cd := cdv) (outer := outer) (s := s) (H := H) (E := E) cx hb S hr hg
  have hN1 : ([y1, y2] : List Str)[1]? = some y2 := rfl
  rw [hbody]
  refine ⟨_, pss_one (ps_ret (pe_lst (pa_cons (pe_lc (own := [(y2, 1)]) rfl S.nd (pi_list (pe_slice sl_list (pe_var (i := 0) rfl (sc.vis hv) (okName_ok ho).1 (okName_ok ho).2) po_none (po_some pe_int))) (blkOk_by hbl)
    (fun st' H' c cl fp => pg_name (i := 1) S.nd hN1 ((sc.blk st' H' scope cl c fp).loc (by unfold locB; rw [show ((bare [y1, y2] (defScope st) ["int"]).blk scope).sc = relS scope (defScope st) from rfl, localB_ok hl2])) (.inr (by rw [(sc.blk st' H' scope cl c fp).sc]; exact localB_ok hl2))) (fun _ _ _ _ _ => pts_nil)
    (fun st' H' c cl fp => pe_callTy call_int1 ((sc.blk st' H' scope cl c fp).gl hg2) (hb _ (List.mem_singleton.mpr rfl)) boot_int (pa_cons (pe_var (i := 1) hN1 ((sc.blk st' H' scope cl c fp).vis hv2) (okName_ok ho2).1 (okName_ok ho2).2) pa_nil)))
    (pa_cons pe_int (pa_cons pe_int pa_nil))))), ?_⟩
  refine ⟨.ref a', rfl, ?_⟩
  refine ⟨mi, rfl, a', ns.map V.int, rfl, hS, fun a2 ha2 => ?_⟩
  obtain ⟨ms, em, hml⟩ := cut_ints ns none (some mi)
  rw [em]
  have q2 : (upd H a2 (.lst (ms.map V.int))) a2 = some (.lst (ms.map V.int)) := upd_same
  refine ⟨a2, rfl, ⟨_, SqL.of q2⟩, fun D1 hD1 => ?_⟩
  have n12 : a2 ≠ D1 := ne_of_none q2 hD1
  refine lc_list (K := K) (a := a2) (xs := ms.map V.int) (fun i H' => H' a2 = some (.lst (ms.map V.int)) ∧ H' D1 = some (.lst ((ms.map V.int).take i))) ⟨by rw [upd_ne n12]; exact q2, upd_same⟩ (fun i H' _ h => SqL.of h.1) (fun i v H' hi h => ?_) fun H' h => ?_
  · rw [List.getElem?_map] at hi
    cases em2 : ms[i]? with
    | none => rw [em2] at hi; cases hi
    | some z =>
      rw [em2] at hi
      have hi : V.int z = v := Option.some.inj hi
      subst hi
      have hlt : i < ms.length := (List.getElem?_eq_some_iff.mp em2).1
      refine ⟨rfl, .int z, rfl, .inl ⟨z, rfl, _, h.2, ?_, ?_⟩⟩
      · rw [List.length_take, List.length_map]
        have := hml
        omega
      · refine ⟨by rw [upd_ne n12]; exact h.1, ?_⟩
        rw [upd_same, List.take_succ, List.getElem?_map, em2]
        rfl
  · refine ⟨by show 3 ≤ sizeLine; decide, fun p hp => pen_end (ms := ms) hQ ?_ hp⟩
    rw [h.2, List.take_length]
/-- the pen by list -/
theorem pen_okB {a : Addr} {fd : FuncData} {x y1 : Str} {st : Stmt} {n : Nat} {p1 p3 p5 p6 p7 p8 p10 p11 p12 p13 : Pos} {k1 k2 k3 : Nat} {mi : Int} (cx : CxOk P wo K mg base CX) (F : Fun K x x st a fd) (hfs : fsB [y1] [y1] (defScope st) = true)
    (hbody : defBody st = [.Return (some (.List [.Call (.Name "list" p1) [.Subscript (.Name y1 p5) (.Slice none (some (.Constant (.int mi) k1 p6)) none p7) p8] [] p3, .Constant (.int 0) k2 p10, .Constant (.int 0) k3 p11] p12)) p13])
    (hn : n ≤ sizeLine) (hb : ∀ x ∈ [("list" : Str)], mg x = none)
    (hv : visB (defScope st) y1 = true) (ho : okName y1 = true) (hg2 : glB (defScope st) "list" = true) :
    FnG P wo K mg base CX 1 a fd [y1] (spPen K n) := by
  have S := fs_of hfs
  obtain ⟨oc, od, kV, doc, pm, an, cdv, ct, osl, e0, hlk, hcd⟩ := F.ex
  rw [e0] at hlk ⊢
  refine fnG_of hlk hcd S (fun vs H Q E ⟨a, ns, e, _⟩ => by rw [e]; rfl) fun A outer s H vs Q E hr hg ⟨a', ns, ev, hS, hln, hQ⟩ => ?_
  subst ev
  have sc := sc_bare (G := ⟨K, fun _ => 0, fun _ => .none⟩) (blt := ["list"]) (qual := x) (f := a) (cd := cdv) (outer := outer) (s := s) (H := H) (E := E) cx hb S hr hg
  rw [hbody]
  refine ⟨_, pss_one (ps_ret (pe_lst (pa_cons (pe_callTy call_list_of (sc.gl hg2) (hb _ (List.mem_singleton.mpr rfl)) boot_list (pa_cons (pe_slice sl_list (pe_var (i := 0) rfl (sc.vis hv) (okName_ok ho).1 (okName_ok ho).2) po_none (po_some pe_int)) pa_nil))
    (pa_cons pe_int (pa_cons pe_int pa_nil))))), ?_⟩
  refine ⟨.ref a', rfl, ?_⟩
  refine ⟨mi, rfl, a', ns.map V.int, rfl, hS, fun a2 ha2 => ?_⟩
  obtain ⟨ms, em, hml⟩ := cut_ints ns none (some mi)
  rw [em]
  have q2 : (upd H a2 (.lst (ms.map V.int))) a2 = some (.lst (ms.map V.int)) := upd_same
  refine ⟨a2, _, rfl, .inl (SqL.of q2), fun D1 hD1 => ?_⟩
  exact ⟨by show 3 ≤ sizeLine; decide, fun p hp => pen_end hQ upd_same hp⟩
end
end RL
end

section
set_option Elab.async false
set_option linter.all false
set_option maxHeartbeats 2000000
/-! RL23: plain lemmas about the interpreter. Own work. -/
namespace RL
open PySem

theorem compL_pure {f : EnvD → Sto → M (Option D × Sto)} {pt : Pat} {env : EnvD} {S : Sto} {g : D → Option D} : ∀ (ds acc : List D), (∀ d ∈ ds, ∃ env', bindP pt d env = some env' ∧ f env' S = .ret (g d, S)) → acc.length + ds.length ≤ lim →
    compL f pt env ds acc S = .ret (acc ++ ds.filterMap g, S)
  | [], acc, _, _ => by simp only [compL, List.filterMap_nil, List.append_nil]
  | d :: ds, acc, h, hl => by
    obtain ⟨env', e1, e2⟩ := h d (List.mem_cons_self ..)
    simp only [compL, e1, e2, noexc_ret, bnd_ret]
    rw [List.length_cons] at hl
    cases hg : g d with
    | none =>
      rw [List.filterMap_cons_none hg]
      exact compL_pure ds acc (fun d hd => h d (List.mem_cons_of_mem _ hd)) (by omega)
    | some y =>
      show (if acc.length < lim then _ else _) = _
      rw [if_pos (by omega), List.filterMap_cons_some hg, compL_pure ds (acc ++ [y]) (fun d hd => h d (List.mem_cons_of_mem _ hd)) (by rw [List.length_append, List.length_singleton]; omega), List.append_assoc]
      rfl
theorem compL_wp {f : EnvD → Sto → M (Option D × Sto)} {pt : Pat} {env : EnvD} {S : Sto} {P : D → Prop} {E : Nat → List D → Prop} : ∀ (ds acc : List D), (∀ d ∈ ds, ∃ env', bindP pt d env = some env' ∧ (f env' S).wp (fun r => r.2 = S ∧ ∀ y, r.1 = some y → P y) fun _ _ => False) → acc.length + ds.length ≤ lim → (∀ y ∈ acc, P y) →
    (compL f pt env ds acc S).wp (fun r => r.2 = S ∧ (∀ y ∈ r.1, P y) ∧ r.1.length ≤ acc.length + ds.length) E
  | [], acc, _, hl, ha => by
    simp only [compL]
    exact ⟨rfl, ha, by simp⟩
  | d :: ds, acc, h, hl, ha => by
    obtain ⟨env', e1, e2⟩ := h d (List.mem_cons_self ..)
    simp only [compL, e1]
    rw [List.length_cons] at hl
    rw [M.wp_bnd, M.wp_noexc]
    refine M.wp_mono _ e2 (fun r hr => ?_) fun _ _ q => q.elim
    obtain ⟨y, S'⟩ := r
    obtain ⟨hS, hy⟩ := hr
    have hS : S' = S := hS
    subst hS
    cases y with
    | none =>
      refine M.wp_mono _ (compL_wp ds acc (fun d hd => h d (List.mem_cons_of_mem _ hd)) (by omega) ha) (fun r q => ⟨q.1, q.2.1, by rw [List.length_cons]; omega⟩) fun _ _ q => q
    | some y =>
      show (if acc.length < lim then _ else _ : M (List D × Sto)).wp _ _
      rw [if_pos (by omega)]
      refine M.wp_mono _ (compL_wp ds (acc ++ [y]) (fun d hd => h d (List.mem_cons_of_mem _ hd)) (by rw [List.length_append, List.length_singleton]; omega) fun z hz => ?_) (fun r q => ⟨q.1, q.2.1, by rw [List.length_cons]; have := q.2.2; rw [List.length_append, List.length_singleton] at this; omega⟩) fun _ _ q => q
      rcases List.mem_append.mp hz with hz | hz
      · exact ha z hz
      · rw [List.mem_singleton.mp hz]
        exact hy y rfl
theorem ev_comp {C : Calls} {chk : Bool} {pt : Pat} {k : Wk} {src cond elt : Ex} {env : EnvD} {S S1 S2 : Sto} {ws : List W} {ds its ys : List D} (h1 : evL C src env S = .ret (ws, S1)) (h2 : mapO datW ws = some ds) (h3 : walkD k ds = some its) (h4 : fewD chk its = true) (h5 : compL (elF C cond elt) pt env its [] S1 = .ret (ys, S2)) :
    evE C (.comp false chk pt k src cond elt) env S = .ret (.d (.lst ys), S2) := by
  simp only [evE, h1, bnd_ret, h2, opt_some, h3, h4, if_true]
  unfold elF at h5
  rw [h5]
  rfl
theorem wp_comp {C : Calls} {chk : Bool} {pt : Pat} {k : Wk} {src cond elt : Ex} {env : EnvD} {S S1 : Sto} {ws : List W} {ds its : List D} {Q : W × Sto → Prop} {E : Nat → List D → Prop} (h1 : evL C src env S = .ret (ws, S1)) (h2 : mapO datW ws = some ds) (h3 : walkD k ds = some its) (h4 : fewD chk its = true) (h5 : (compL (elF C cond elt) pt env its [] S1).wp (fun r => Q (.d (.lst r.1), r.2)) E) :
    (evE C (.comp false chk pt k src cond elt) env S).wp Q E := by
  simp only [evE, h1, bnd_ret, h2, opt_some, h3, h4, if_true]
  unfold elF at h5
  rw [M.wp_bnd]
  exact M.wp_mono _ h5 (fun r q => q) fun _ _ q => q
theorem forL_inv {f : EnvD → Sto → M (Fl × EnvD × Sto)} {pt : Pat} {E : Nat → List D → Prop} {I : EnvD → Sto → Prop} : ∀ (its : List D) (env : EnvD) (S : Sto), I env S → (∀ d ∈ its, ∀ env S, I env S → ∃ env', bindP pt d env = some env' ∧ (f env' S).wp (fun r => r.1 = .nx ∧ I r.2.1 r.2.2) E) →
    (forL f pt its env S).wp (fun r => r.1 = .nx ∧ I r.2.1 r.2.2) E
  | [], env, S, h, _ => by
    simp only [forL]
    exact ⟨rfl, h⟩
  | d :: ds, env, S, h, k => by
    obtain ⟨env', e1, e2⟩ := k d (List.mem_cons_self ..) env S h
    simp only [forL, e1]
    rw [M.wp_bnd]
    refine M.wp_mono _ e2 (fun r hr => ?_) fun _ _ q => q
    obtain ⟨fl, env2, S2⟩ := r
    obtain ⟨h1, h2⟩ := hr
    have h1 : fl = .nx := h1
    subst h1
    exact forL_inv ds env2 S2 h2 fun d hd => k d (List.mem_cons_of_mem _ hd)
/-- it goes on, and so -/
abbrev NX (P : EnvD → Sto → Prop) : Fl × EnvD × Sto → Prop := fun r => r.1 = .nx ∧ P r.2.1 r.2.2
theorem wp_seq {C : Calls} {s t : St} {env : EnvD} {S : Sto} {Q : Fl × EnvD × Sto → Prop} {E : Nat → List D → Prop} (P : EnvD → Sto → Prop) (h1 : (exB C s env S).wp (NX P) E) (h2 : ∀ env' S', P env' S' → (exB C t env' S').wp Q E) : (exB C (.cons s t) env S).wp Q E := by
  simp only [exB]
  rw [M.wp_bnd]
  refine M.wp_mono _ h1 (fun r hr => ?_) fun _ _ q => q
  obtain ⟨fl, env2, S2⟩ := r
  obtain ⟨e, h⟩ := hr
  have e : fl = .nx := e
  subst e
  exact h2 env2 S2 h
theorem wp_seqR {C : Calls} {s t : St} {env env' : EnvD} {S S' : Sto} {Q : Fl × EnvD × Sto → Prop} {E : Nat → List D → Prop} (h1 : exB C s env S = .ret (.nx, env', S')) (h2 : (exB C t env' S').wp Q E) : (exB C (.cons s t) env S).wp Q E := by
  simp only [exB, h1, bnd_ret]
  exact h2
theorem Tri.seq {C : Calls} {s t : St} {env : EnvD} {S : Sto} {Q : Fl × EnvD × Sto → Prop} {E : Nat → List D → Prop} (P : EnvD → Sto → Prop) (h1 : Tri C s env S (NX P) E) (h2 : ∀ env' S', P env' S' → Tri C t env' S' Q E) : Tri C (.cons s t) env S Q E :=
  ⟨wp_seq P h1.run fun env' S' h => (h2 env' S' h).run⟩
theorem Tri.seqR {C : Calls} {s t : St} {env env' : EnvD} {S S' : Sto} {Q : Fl × EnvD × Sto → Prop} {E : Nat → List D → Prop} (h1 : exB C s env S = .ret (.nx, env', S')) (h2 : Tri C t env' S' Q E) : Tri C (.cons s t) env S Q E :=
  ⟨wp_seqR h1 h2.run⟩
theorem Tri.nil {C : Calls} {env : EnvD} {S : Sto} {P : EnvD → Sto → Prop} {E : Nat → List D → Prop} (h : P env S) : Tri C .nil env S (NX P) E := ⟨by
  simp only [exB]
  exact ⟨rfl, h⟩⟩
/-- a loop whose turns keep I -/
theorem Tri.forr {C : Calls} {chk : Bool} {pt : Pat} {k : Wk} {src : Ex} {body : St} {env : EnvD} {S : Sto} {E : Nat → List D → Prop} {ws : List W} {S1 : Sto} {ds its : List D} (I : EnvD → Sto → Prop) (h1 : evL C src env S = .ret (ws, S1)) (h2 : mapO datW ws = some ds) (h3 : walkD k ds = some its) (h4 : fewD chk its = true) (h0 : I env S1)
    (h : ∀ d ∈ its, ∀ env S, I env S → ∃ env', bindP pt d env = some env' ∧ Tri C body env' S (NX I) E) : Tri C (.forr chk pt k src body) env S (NX I) E := ⟨by
  simp only [exB, h1, bnd_ret, h2, opt_some, h3, h4, if_true]
  exact forL_inv its env S1 h0 fun d hd env S hI => (h d hd env S hI).imp fun env' q => ⟨q.1, q.2.run⟩⟩
theorem ixN_of {n : Nat} {v : Int} (h0 : 0 ≤ v) (h1 : v < n) : L2.ixN n v = some v.toNat := by
  unfold L2.ixN
  rw [if_pos h0, if_pos h1]
theorem atI_of {α : Type} {xs : List α} {v : Int} (h0 : 0 ≤ v) (h1 : v < xs.length) : ∃ x ∈ xs, L2.atI xs v = some x := by
  unfold L2.atI
  rw [ixN_of h0 h1]
  have h : v.toNat < xs.length := by omega
  refine ⟨xs[v.toNat], List.getElem_mem h, ?_⟩
  show xs[v.toNat]? = _
  exact List.getElem?_eq_getElem h
/-- a pick from a list -/
theorem wp_pickL {ds : List D} {Q : D → Prop} {E : Nat → List D → Prop} (h0 : 0 < ds.length) (h1 : ds.length ≤ 1000) (h : ∀ d ∈ ds, Q d) : (M.draw (ds.length : Int) fun v => M.opt (subD (.lst ds) (.int v)) .ret).wp Q E := by
  refine ⟨⟨by omega, ?_⟩, fun v v0 v1 => ?_⟩
  · have e : (1000 : Int) < 2 ^ 1000 := by decide +kernel
    omega
  · obtain ⟨x, hx, e⟩ := atI_of v0 v1
    simp only [subD, e, opt_some]
    exact h x hx
/-- .. from a text -/
theorem wp_pickS {cs : List Nat} {Q : D → Prop} {E : Nat → List D → Prop} (h0 : 0 < cs.length) (h1 : cs.length ≤ 1000) (h : ∀ c ∈ cs, Q (.str [c])) : (M.draw (cs.length : Int) fun v => M.opt (subD (.str cs) (.int v)) .ret).wp Q E := by
  refine ⟨⟨by omega, ?_⟩, fun v v0 v1 => ?_⟩
  · have e : (1000 : Int) < 2 ^ 1000 := by decide +kernel
    omega
  · obtain ⟨x, hx, e⟩ := atI_of v0 v1
    have hl : cs.length ≤ lim := by unfold lim; omega
    simp only [subD, e, opt_some, if_pos hl]
    exact h x hx
theorem wp_draw {α : Type} {n : Int} {k : Int → M α} {Q : α → Prop} {E : Nat → List D → Prop} (h0 : 0 < n) (h1 : n ≤ 1000000) (h : ∀ v, 0 ≤ v → v < n → (k v).wp Q E) : (M.draw n k).wp Q E := by
  have e : (1000000 : Int) < 2 ^ 1000 := by decide +kernel
  exact ⟨⟨h0, by omega⟩, h⟩
/-! texts of plain signs -/
def plainS (cs : List Nat) : Prop := ∀ c ∈ cs, c < 128
def chL1 (cs : List Nat) : List D := cs.map fun c => .str [c]
theorem pys_chL1 : ∀ cs : List Nat, D.pys (chL1 cs) = some (cs.map fun c => .str ⟨#[c]⟩)
  | [] => rfl
  | c :: cs => by
    show (match D.py (.str [c]), D.pys (chL1 cs) with
      | some x, some xs => some (x :: xs)
      | _, _ => none) = _
    rw [pys_chL1 cs]
    rfl
theorem lay_chL1 : ∀ cs : List Nat, plainS cs → PyData.canLayAll0 (cs.map fun c => .str ⟨#[c]⟩) = true ∧ PyData.depthAll (cs.map fun c => PyData.str ⟨#[c]⟩) = 0
  | [], _ => ⟨rfl, rfl⟩
  | c :: cs, h => by
    obtain ⟨h1, h2⟩ := lay_chL1 cs fun d hd => h d (List.mem_cons_of_mem _ hd)
    have hc := h c (List.mem_cons_self ..)
    refine ⟨?_, ?_⟩
    · show (PyData.canLay0 (.str ⟨#[c]⟩) && PyData.canLayAll0 (cs.map fun c => .str ⟨#[c]⟩)) = true
      rw [h1, Bool.and_true]
      simp only [PyData.canLay0, PyData.strOk]
      simp
      omega
    · show max (PyData.depth (.str ⟨#[c]⟩)) (PyData.depthAll (cs.map fun c => PyData.str ⟨#[c]⟩)) = 0
      rw [h2]
      rfl
/-- [..] == [] -/
theorem eq_nil {cs : List Nat} (h : plainS cs) : eqD (.lst (chL1 cs)) (.lst []) = some cs.isEmpty := by
  obtain ⟨h1, h2⟩ := lay_chL1 cs h
  unfold eqD
  show (match D.py (.lst (chL1 cs)), D.py (.lst []) with
    | some x, some y => if SeqAt.shaped x && SeqAt.shaped y then some (PyData.eqv x y) else none
    | _, _ => none) = _
  have e1 : D.py (.lst (chL1 cs)) = some (.list (cs.map fun c => .str ⟨#[c]⟩)) := by
    simp only [D.py, pys_chL1, Option.map_some]
  rw [e1]
  show (if SeqAt.shaped (.list (cs.map fun c => .str ⟨#[c]⟩)) && SeqAt.shaped (.list []) then some (PyData.eqv (.list (cs.map fun c => .str ⟨#[c]⟩)) (.list [])) else none) = _
  have e2 : SeqAt.shaped (.list (cs.map fun c => .str ⟨#[c]⟩)) = true := by
    unfold SeqAt.shaped
    simp only [PyData.canLay0, PyData.depth, h1, h2]
    decide
  rw [e2]
  show some _ = some _
  cases cs <;> rfl
theorem run_fn {T : Nat → Option Fn} {n f : Nat} {g : Fn} {ds : List D} (h : T f = some g) (hl : ds.length = g.pars) : dcall (run T (n + 1)) f ds = (exB (run T n) g.body (ds.map (fun d => some (W.d d)) ++ List.replicate (g.slots - ds.length) none) []).bnd fun r => match r.1 with
    | .rt w => M.opt (datW w) .ret
    | .nx => .ret .non
    | _ => .stuck := by
  unfold dcall
  simp only [run, h]
  rw [if_pos (by rw [List.length_map]; exact hl), bnd_assoc, List.map_map, List.length_map]
  congr 1
  funext r
  cases r.1 <;> rfl
/-- a call over the store -/
theorem run_fnS {T : Nat → Option Fn} {n f : Nat} {g : Fn} {ws : List W} {S : Sto} (h : T f = some g) (hl : ws.length = g.pars) : run T (n + 1) f ws S = (exB (run T n) g.body (ws.map some ++ List.replicate (g.slots - ws.length) none) S).bnd fun r => match r.1 with
    | .rt w => .ret (w, r.2.2)
    | .nx => .ret (.d .non, r.2.2)
    | _ => .stuck := by
  simp only [run, h]
  rw [if_pos hl]
  try rfl
theorem le_lim {n : Nat} (h : n ≤ 1000) : (n ≤ lim) = True := by
  have : n ≤ lim := by unfold lim; omega
  exact eq_true this
theorem wp_dL {α : Type} {n : Int} {ds : List D} {k : D → M α} {Q : α → Prop} {E : Nat → List D → Prop} (hn : n = ds.length) (h0 : 0 < ds.length) (h1 : ds.length ≤ 1000) (h : ∀ d ∈ ds, (k d).wp Q E) : (M.draw n fun v => M.opt (subD (.lst ds) (.int v)) k).wp Q E := by
  subst hn
  refine wp_draw (by omega) (by omega) fun v v0 v1 => ?_
  obtain ⟨x, hx, e⟩ := atI_of v0 v1
  simp only [subD, e, opt_some]
  exact h x hx
theorem wp_dS {α : Type} {n : Int} {cs : List Nat} {k : D → M α} {Q : α → Prop} {E : Nat → List D → Prop} (hn : n = cs.length) (h0 : 0 < cs.length) (h1 : cs.length ≤ 1000) (h : ∀ c ∈ cs, (k (.str [c])).wp Q E) : (M.draw n fun v => M.opt (subD (.str cs) (.int v)) k).wp Q E := by
  subst hn
  refine wp_draw (by omega) (by omega) fun v v0 v1 => ?_
  obtain ⟨x, hx, e⟩ := atI_of v0 v1
  have hl : cs.length ≤ lim := by unfold lim; omega
  simp only [subD, e, opt_some, if_pos hl]
  exact h x hx
/-! values of data functions -/
theorem v_rd {x : D} {S : Sto} : rdW (.d x) S = some x := rfl
theorem v_dat {x : D} : datW (.d x) = some x := rfl
theorem v_non : truD .non = some false := rfl
theorem v_bl {b : Bool} : truD (.bl b) = some b := rfl
theorem v_int {i : Int} : truD (.int i) = some (i != 0) := rfl
theorem v_lst {ds : List D} : truD (.lst ds) = some (!ds.isEmpty) := rfl
theorem v_tup {ds : List D} : truD (.tup ds) = some (!ds.isEmpty) := rfl
theorem v_str {cs : List Nat} : truD (.str cs) = (if cs.length ≤ lim then some (!cs.isEmpty) else none) := rfl
theorem v_add {i j : Int} : binD .add (.int i) (.int j) = (some (.int (i + j))) := rfl
theorem v_sub {i j : Int} : binD .sub (.int i) (.int j) = (some (.int (i - j))) := rfl
theorem v_mul {i j : Int} : binD .mul (.int i) (.int j) = (if isIntOk i j then some (.int (i * j)) else none) := rfl
theorem v_fdivZ {i j : Int} : binD .fdiv (.int i) (.int j) = (if j ≠ 0 ∧ j.natAbs.log2 < 9000 then some (.int (i.fdiv j)) else none) := rfl
theorem v_fdiv {i j : Int} (h : 0 < j) : binD .fdiv (.int i) (.int j) = (if j.natAbs.log2 < 9000 then some (.int (i / j)) else none) := by
  rw [v_fdivZ, Int.fdiv_eq_ediv_of_nonneg i (by omega)]
  by_cases g : j.natAbs.log2 < 9000
  · rw [if_pos g, if_pos ⟨by omega, g⟩]
  · rw [if_neg g, if_neg fun q => g q.2]
theorem v_mulL {a : List D} {k : Int} : binD .mul (.lst a) (.int k) = (if (0 ≤ k ∧ k.toNat ≤ lim) ∧ a.length * k.toNat ≤ lim then some (.lst (List.replicate k.toNat a).flatten) else none) := rfl
theorem v_max {a b : Int} : biD .max [.int a, .int b] = some (.int (if b > a then b else a)) := rfl
theorem v_min {a b : Int} : biD .min [.int a, .int b] = some (.int (if b < a then b else a)) := rfl
theorem v_mod {i j : Int} : binD .mod (.int i) (.int j) = (if 0 < j then some (.int (i % j)) else none) := rfl
theorem v_pow {i j : Int} : binD .pow (.int i) (.int j) = (if (0 ≤ j ∧ j ≤ 1000000 ∧ i.natAbs < 2 ^ 64) ∨ (0 ≤ j ∧ j ≤ 60 ∧ i.natAbs < 2 ^ 20000) then some (.int (i ^ j.toNat)) else none) := rfl
theorem v_cat {a b : List Nat} : binD .add (.str a) (.str b) = (if a.length + b.length ≤ lim then some (.str (a ++ b)) else none) := rfl
theorem v_app {a b : List D} : binD .add (.lst a) (.lst b) = (if a.length + b.length ≤ lim then some (.lst (a ++ b)) else none) := rfl
theorem v_neg {i : Int} : negD (.int i) = some (.int (-i)) := rfl
theorem v_lt {i j : Int} : cmpD .lt (.int i) (.int j) = some (decide (i < j)) := rfl
theorem v_le {i j : Int} : cmpD .le (.int i) (.int j) = some (decide (i ≤ j)) := rfl
theorem v_gt {i j : Int} : cmpD .gt (.int i) (.int j) = some (decide (j < i)) := rfl
theorem v_ge {i j : Int} : cmpD .ge (.int i) (.int j) = some (decide (j ≤ i)) := rfl
theorem v_eq {a b : D} : cmpD .eq a b = eqD a b := rfl
theorem v_isN {a : D} : cmpD .isN a .non = some (isN a) := rfl
theorem v_notN {a : D} : cmpD .notN a .non = some (!isN a) := rfl
theorem v_in {a b : D} : cmpD .isIn a b = inD a b := rfl
theorem v_nin {a b : D} : cmpD .notIn a b = (inD a b).map not := rfl
theorem v_inS {c : Nat} {z : List Nat} : inD (.str [c]) (.str z) = some (decide (c ∈ z)) := rfl
theorem v_eqI {i j : Int} : eqD (.int i) (.int j) = some (i == j) := rfl
theorem v_eqS {a b : List Nat} : eqD (.str a) (.str b) = some (a == b) := rfl
theorem v_neI {i j : Int} : cmpD .ne (.int i) (.int j) = some (!(i == j)) := rfl
theorem v_neS {a b : List Nat} : cmpD .ne (.str a) (.str b) = some (!(a == b)) := rfl
theorem v_lenS {cs : List Nat} : biD .len [.str cs] = (if cs.length ≤ lim then some (.int cs.length) else none) := rfl
theorem v_lenL {ds : List D} : biD .len [.lst ds] = some (.int ds.length) := rfl
theorem v_lenT {ds : List D} : biD .len [.tup ds] = some (.int ds.length) := rfl
theorem v_repr {d : D} : biD .repr [d] = reprD d := rfl
theorem v_intI {i : Int} : biD .int [.int i] = some (.int i) := rfl
theorem v_intB {b : Bool} : biD .int [.bl b] = some (.int (if b then 1 else 0)) := rfl
theorem v_abs {i : Int} : biD .abs [.int i] = some (.int i.natAbs) := rfl
theorem v_all {ds : List D} : biD .all [.lst ds] = (match bls ds with | some bs => some (.bl (bs.all id)) | none => none) := rfl
theorem v_ty_int_non  : tyD .int .non = some false := rfl
theorem v_ty_int_bl {b : Bool} : tyD .int (.bl b) = some true := rfl
theorem v_ty_int_int {i : Int} : tyD .int (.int i) = some true := rfl
theorem v_ty_int_str {cs : List Nat} : tyD .int (.str cs) = some false := rfl
theorem v_ty_int_lst {ds : List D} : tyD .int (.lst ds) = some false := rfl
theorem v_ty_int_tup {ds : List D} : tyD .int (.tup ds) = some false := rfl
theorem v_ty_int_dct {ks vs : List D} : tyD .int (.dct ks vs) = some false := rfl
theorem v_ty_bool_non  : tyD .bool .non = some false := rfl
theorem v_ty_bool_bl {b : Bool} : tyD .bool (.bl b) = some true := rfl
theorem v_ty_bool_int {i : Int} : tyD .bool (.int i) = some false := rfl
theorem v_ty_bool_str {cs : List Nat} : tyD .bool (.str cs) = some false := rfl
theorem v_ty_bool_lst {ds : List D} : tyD .bool (.lst ds) = some false := rfl
theorem v_ty_bool_tup {ds : List D} : tyD .bool (.tup ds) = some false := rfl
theorem v_ty_bool_dct {ks vs : List D} : tyD .bool (.dct ks vs) = some false := rfl
theorem v_ty_str_non  : tyD .str .non = some false := rfl
theorem v_ty_str_bl {b : Bool} : tyD .str (.bl b) = some false := rfl
theorem v_ty_str_int {i : Int} : tyD .str (.int i) = some false := rfl
theorem v_ty_str_str {cs : List Nat} : tyD .str (.str cs) = some true := rfl
theorem v_ty_str_lst {ds : List D} : tyD .str (.lst ds) = some false := rfl
theorem v_ty_str_tup {ds : List D} : tyD .str (.tup ds) = some false := rfl
theorem v_ty_str_dct {ks vs : List D} : tyD .str (.dct ks vs) = some false := rfl
theorem v_ty_list_non  : tyD .list .non = some false := rfl
theorem v_ty_list_bl {b : Bool} : tyD .list (.bl b) = some false := rfl
theorem v_ty_list_int {i : Int} : tyD .list (.int i) = some false := rfl
theorem v_ty_list_str {cs : List Nat} : tyD .list (.str cs) = some false := rfl
theorem v_ty_list_lst {ds : List D} : tyD .list (.lst ds) = some true := rfl
theorem v_ty_list_tup {ds : List D} : tyD .list (.tup ds) = some false := rfl
theorem v_ty_list_dct {ks vs : List D} : tyD .list (.dct ks vs) = some false := rfl
theorem v_ty_tuple_non  : tyD .tuple .non = some false := rfl
theorem v_ty_tuple_bl {b : Bool} : tyD .tuple (.bl b) = some false := rfl
theorem v_ty_tuple_int {i : Int} : tyD .tuple (.int i) = some false := rfl
theorem v_ty_tuple_str {cs : List Nat} : tyD .tuple (.str cs) = some false := rfl
theorem v_ty_tuple_lst {ds : List D} : tyD .tuple (.lst ds) = some false := rfl
theorem v_ty_tuple_tup {ds : List D} : tyD .tuple (.tup ds) = some true := rfl
theorem v_ty_tuple_dct {ks vs : List D} : tyD .tuple (.dct ks vs) = some false := rfl
theorem v_ty_dict_non  : tyD .dict .non = some false := rfl
theorem v_ty_dict_bl {b : Bool} : tyD .dict (.bl b) = some false := rfl
theorem v_ty_dict_int {i : Int} : tyD .dict (.int i) = some false := rfl
theorem v_ty_dict_str {cs : List Nat} : tyD .dict (.str cs) = some false := rfl
theorem v_ty_dict_lst {ds : List D} : tyD .dict (.lst ds) = some false := rfl
theorem v_ty_dict_tup {ds : List D} : tyD .dict (.tup ds) = some false := rfl
theorem v_ty_dict_dct {ks vs : List D} : tyD .dict (.dct ks vs) = some true := rfl
theorem v_isN_non : isN .non = true := rfl
theorem v_isN_int {i : Int} : isN (.int i) = false := rfl
theorem v_isN_bl {i : Bool} : isN (.bl i) = false := rfl
theorem v_isN_str {i : List Nat} : isN (.str i) = false := rfl
theorem v_subS {cs : List Nat} {i : Int} : subD (.str cs) (.int i) = (if cs.length ≤ lim then (match L2.atI cs i with | some c => some (.str [c]) | none => none) else none) := rfl
theorem v_subL {ds : List D} {i : Int} : subD (.lst ds) (.int i) = (match L2.atI ds i with | some d => some d | none => none) := rfl
theorem v_subT {ds : List D} {i : Int} : subD (.tup ds) (.int i) = (match L2.atI ds i with | some d => some d | none => none) := rfl
theorem v_sliS {cs : List Nat} {l h : Option Int} : sliceD (.str cs) l h = (if cs.length ≤ lim then some (.str (cutL cs l h)) else none) := rfl
theorem v_sliL {cs : List D} {l h : Option Int} : sliceD (.lst cs) l h = some (.lst (cutL cs l h)) := rfl
theorem v_sliT {cs : List D} {l h : Option Int} : sliceD (.tup cs) l h = some (.tup (cutL cs l h)) := rfl
theorem v_optN : optI [] = some none := rfl
theorem v_optI {i : Int} : optI [.int i] = some (some i) := rfl
theorem v_meT {cs : List Nat} : meT .join (.d (.str cs)) = some () := rfl
theorem v_join {sep : List Nat} {ds : List D} : meD .join (.str sep) [.lst ds] = (match strsD ds with | some ts => if (ts.map List.length).sum + ts.length * sep.length ≤ lim then some (.str (joinL sep ts)) else none | none => none) := rfl
theorem v_walL {ds : List D} : walkD .val [.lst ds] = some ds := rfl
theorem v_walT {ds : List D} : walkD .val [.tup ds] = some ds := rfl
theorem v_walS {cs : List Nat} : walkD .val [.str cs] = (if cs.length ≤ lim then some (cs.map fun c => .str [c]) else none) := rfl
theorem v_rng1 {n : Int} : walkD .range [.int n] = (if small n then some (upD 0 n.toNat) else none) := rfl
theorem v_rng2 {a b : Int} : walkD .range [.int a, .int b] = (if small a && small b then some (upD a (b - a).toNat) else none) := rfl
theorem v_enum {ds : List D} : walkD .enum [.lst ds] = some (enumD 0 ds) := rfl
theorem v_zip {ds es : List D} : walkD .zip [.lst ds, .lst es] = some (zipD ds es) := rfl
theorem v_fewF {ds : List D} : fewD false ds = true := rfl
theorem v_any1 {b : Bool} : [b].any id = b := by simp
theorem v_any2 {b c : Bool} : [b, c].any id = (b || c) := by simp
theorem v_setW {env : EnvD} {i : Nat} {w : W} (h : i < env.length) : setW env i w = some (env.set i (some w)) := if_pos h
end RL
end

section
set_option Elab.async false
set_option linter.all false
set_option maxHeartbeats 2000000
/-! RL24: more plain lemmas about the interpreter: lists told by a function, loops with a relation. Own work. -/
namespace RL
open PySem

theorem compL_map {α : Type} {f : EnvD → Sto → M (Option D × Sto)} {pt : Pat} {env : EnvD} {S : Sto} (F : α → D) (g : α → Option D) : ∀ (l : List α) (acc : List D), (∀ a ∈ l, ∃ env', bindP pt (F a) env = some env' ∧ f env' S = .ret (g a, S)) → acc.length + l.length ≤ lim →
    compL f pt env (l.map F) acc S = .ret (acc ++ l.filterMap g, S)
  | [], acc, _, _ => by simp only [List.map_nil, compL, List.filterMap_nil, List.append_nil]
  | d :: ds, acc, h, hl => by
    obtain ⟨env', e1, e2⟩ := h d (List.mem_cons_self ..)
    simp only [List.map_cons, compL, e1, e2, noexc_ret, bnd_ret]
    rw [List.length_cons] at hl
    cases hg : g d with
    | none =>
      rw [List.filterMap_cons_none hg]
      exact compL_map F g ds acc (fun d hd => h d (List.mem_cons_of_mem _ hd)) (by omega)
    | some y =>
      show (if acc.length < lim then _ else _) = _
      rw [if_pos (by omega), List.filterMap_cons_some hg, compL_map F g ds (acc ++ [y]) (fun d hd => h d (List.mem_cons_of_mem _ hd)) (by rw [List.length_append, List.length_singleton]; omega), List.append_assoc]
      rfl
/-- what a comprehension makes of a list that is told by a function -/
theorem ev_of {α : Type} {C : Calls} {m chk : Bool} {pt : Pat} {k : Wk} {src cond elt : Ex} {env : EnvD} {S S1 : Sto} {ws : List W} {ds : List D} (l : List α) (F : α → D) (g : α → Option D) (h1 : evL C src env S = .ret (ws, S1)) (h2 : mapO datW ws = some ds) (h3 : walkD k ds = some (l.map F)) (h4 : fewD chk (l.map F) = true) (hl : l.length ≤ lim)
    (h : ∀ a ∈ l, ∃ env', bindP pt (F a) env = some env' ∧ elF C cond elt env' S1 = .ret (g a, S1)) :
    evE C (.comp m chk pt k src cond elt) env S = if m then .ret (.r S1.length, S1 ++ [.lst (l.filterMap g)]) else .ret (.d (.lst (l.filterMap g)), S1) := by
  have h5 := compL_map (S := S1) F g l [] h (by simpa using hl)
  simp only [evE, h1, bnd_ret, h2, opt_some, h3, h4, if_true]
  unfold elF at h5
  rw [h5]
  rfl
theorem fm_some {α β : Type} (f : α → β) : ∀ l : List α, (l.filterMap fun a => some (f a)) = l.map f
  | [] => rfl
  | a :: l => by
    rw [List.filterMap_cons]
    show f a :: l.filterMap (fun a => some (f a)) = _
    rw [fm_some f l]
    rfl
theorem fm_if {α β : Type} (p : α → Bool) (f : α → β) : ∀ l : List α, (l.filterMap fun a => if p a then some (f a) else none) = (l.filter p).map f
  | [] => rfl
  | a :: l => by
    rw [List.filterMap_cons, List.filter_cons]
    by_cases h : p a = true
    · rw [if_pos h, if_pos h]
      show f a :: l.filterMap (fun a => if p a then some (f a) else none) = _
      rw [fm_if p f l]
      rfl
    · rw [if_neg h, if_neg h]
      exact fm_if p f l
/-- no condition -/
theorem el_yes {C : Calls} {elt : Ex} {env : EnvD} {S : Sto} {d : D} (h : evE C elt env S = .ret (.d d, S)) : elF C (.dat (.bl true)) elt env S = .ret (some d, S) := by
  unfold elF
  simp only [evE, bnd_ret, rdW, opt_some, truD, if_true, h, datW]
theorem el_if {C : Calls} {cond elt : Ex} {env : EnvD} {S : Sto} {p : Bool} {d : D} (hc : evE C cond env S = .ret (.d (.bl p), S)) (h : p = true → evE C elt env S = .ret (.d d, S)) : elF C cond elt env S = .ret (if p then some d else none, S) := by
  unfold elF
  simp only [hc, bnd_ret, rdW, opt_some, truD]
  cases p with
  | false => rfl
  | true =>
    simp only [if_true, h rfl, bnd_ret, datW, opt_some]
/-! loops -/
theorem forL_rel {f : EnvD → Sto → M (Fl × EnvD × Sto)} {pt : Pat} {I : Nat → EnvD → Sto → Prop} : ∀ (its : List D) (k : Nat) (env : EnvD) (S : Sto), I k env S → (∀ i d, its[i]? = some d → ∀ env S, I (k + i) env S → ∃ env' env2 S2, bindP pt d env = some env' ∧ f env' S = .ret (.nx, env2, S2) ∧ I (k + i + 1) env2 S2) →
    ∃ env2 S2, forL f pt its env S = .ret (.nx, env2, S2) ∧ I (k + its.length) env2 S2
  | [], k, env, S, h, _ => ⟨env, S, by simp only [forL], h⟩
  | d :: ds, k, env, S, h, hf => by
    obtain ⟨env', env2, S2, e1, e2, h2⟩ := hf 0 d rfl env S h
    obtain ⟨env3, S3, e3, h3⟩ := forL_rel ds (k + 1) env2 S2 h2 fun i d hd env S hI => by
      have hd' : (d :: ds)[i + 1]? = some d := hd
      have := hf (i + 1) d (by simpa using hd) env S (by rw [show k + (i + 1) = k + 1 + i by omega]; exact hI)
      rw [show k + (i + 1) + 1 = k + 1 + i + 1 by omega] at this
      exact this
    refine ⟨env3, S3, ?_, ?_⟩
    · simp only [forL, e1, e2, bnd_ret]
      exact e3
    · rw [List.length_cons, show k + (ds.length + 1) = k + 1 + ds.length by omega]
      exact h3
theorem ex_for {C : Calls} {chk : Bool} {pt : Pat} {k : Wk} {src : Ex} {body : St} {env : EnvD} {S S1 : Sto} {ws : List W} {ds its : List D} {I : Nat → EnvD → Sto → Prop} (h1 : evL C src env S = .ret (ws, S1)) (h2 : mapO datW ws = some ds) (h3 : walkD k ds = some its) (h4 : fewD chk its = true) (h0 : I 0 env S1)
    (h : ∀ i d, its[i]? = some d → ∀ env S, I i env S → ∃ env' env2 S2, bindP pt d env = some env' ∧ exB C body env' S = .ret (.nx, env2, S2) ∧ I (i + 1) env2 S2) :
    ∃ env2 S2, exB C (.forr chk pt k src body) env S = .ret (.nx, env2, S2) ∧ I its.length env2 S2 := by
  obtain ⟨env2, S2, e, hI⟩ := forL_rel (f := fun env' S' => exB C body env' S') (pt := pt) (I := I) its 0 env S1 h0 fun i d hd env S q => by
    rw [Nat.zero_add] at q ⊢
    exact h i d hd env S q
  refine ⟨env2, S2, ?_, by rw [Nat.zero_add] at hI; exact hI⟩
  simp only [exB, h1, bnd_ret, h2, opt_some, h3, h4, if_true]
  exact e
/-- Euclid's way: one, other = other, one % other -/
theorem while_gcd {c : EnvD → Sto → M (Bool × Sto)} {f : EnvD → Sto → M (Fl × EnvD × Sto)} {S : Sto} (st : Nat → Nat → EnvD) (hc : ∀ a b, c (st a b) S = .ret (decide (b ≠ 0), S)) (hf : ∀ a b, b ≠ 0 → f (st a b) S = .ret (.nx, st b (a % b), S)) :
    ∀ (k a b fuel : Nat), b < 2 ^ k → 2 * k < fuel → whileL c f fuel (st a b) S = .ret (.nx, st (Nat.gcd a b) 0, S) := by
  have stop : ∀ a n, whileL c f (n + 1) (st a 0) S = .ret (.nx, st (Nat.gcd a 0) 0, S) := fun a n => by
    simp only [whileL, hc, bnd_ret]
    rw [if_neg (by simp), Nat.gcd_zero_right]
  have turn : ∀ a b n, b ≠ 0 → whileL c f (n + 1) (st a b) S = whileL c f n (st b (a % b)) S := fun a b n h => by
    simp only [whileL, hc, bnd_ret]
    rw [if_pos (by simpa using h), hf a b h]
    rfl
  intro k
  induction k with
  | zero =>
    intro a b fuel hb hfu
    have : b = 0 := by simpa using hb
    subst this
    obtain ⟨n, rfl⟩ : ∃ n, fuel = n + 1 := ⟨fuel - 1, by omega⟩
    exact stop a n
  | succ k ih =>
    intro a b fuel hb hfu
    obtain ⟨n, rfl⟩ : ∃ n, fuel = n + 1 + 1 := ⟨fuel - 2, by omega⟩
    by_cases h : b = 0
    · subst h
      exact stop a _
    · rw [turn a b _ h]
      have e1 : Nat.gcd a b = Nat.gcd b (a % b) := by rw [Nat.gcd_comm, Nat.gcd_rec b a, Nat.gcd_comm]
      by_cases h2 : a % b = 0
      · rw [e1, h2]
        exact stop b n
      · rw [turn b (a % b) n h2]
        have lt1 : a % b < b := Nat.mod_lt _ (by omega)
        have lt2 : b % (a % b) < a % b := Nat.mod_lt _ (by omega)
        have e2 : Nat.gcd b (a % b) = Nat.gcd (a % b) (b % (a % b)) := by rw [Nat.gcd_comm, Nat.gcd_rec (a % b) b, Nat.gcd_comm]
        rw [e1, e2]
        refine ih _ _ n ?_ (by omega)
        have le : a % b + b % (a % b) ≤ b := by
          have := Nat.div_add_mod b (a % b)
          have q : 1 ≤ b / (a % b) := (Nat.one_le_div_iff (by omega)).mpr (Nat.le_of_lt lt1)
          have := Nat.mul_le_mul_left (a % b) q
          omega
        have e3 : 2 ^ (k + 1) = 2 * 2 ^ k := by rw [Nat.pow_succ, Nat.mul_comm]
        omega
/-- a loop's turns, counted -/
theorem forL_invN {f : EnvD → Sto → M (Fl × EnvD × Sto)} {pt : Pat} {E : Nat → List D → Prop} {I : Nat → EnvD → Sto → Prop} : ∀ (its : List D) (k : Nat) (env : EnvD) (S : Sto), I k env S → (∀ i d, its[i]? = some d → ∀ env S, I (k + i) env S → ∃ env', bindP pt d env = some env' ∧ (f env' S).wp (fun r => r.1 = .nx ∧ I (k + i + 1) r.2.1 r.2.2) E) →
    (forL f pt its env S).wp (fun r => r.1 = .nx ∧ I (k + its.length) r.2.1 r.2.2) E
  | [], k, env, S, h, _ => by
    simp only [forL]
    exact ⟨rfl, h⟩
  | d :: ds, k, env, S, h, hf => by
    obtain ⟨env', e1, e2⟩ := hf 0 d rfl env S h
    simp only [forL, e1]
    rw [M.wp_bnd]
    refine M.wp_mono _ e2 (fun r hr => ?_) fun _ _ q => q
    obtain ⟨fl, env2, S2⟩ := r
    obtain ⟨h1, h2⟩ := hr
    have h1 : fl = .nx := h1
    subst h1
    have q := forL_invN (E := E) ds (k + 1) env2 S2 h2 fun i d hd env S hI => by
      have := hf (i + 1) d hd env S (by rw [show k + (i + 1) = k + 1 + i by omega]; exact hI)
      rw [show k + (i + 1) + 1 = k + 1 + i + 1 by omega] at this
      exact this
    rw [List.length_cons, show k + (ds.length + 1) = k + 1 + ds.length by omega]
    exact q
theorem Tri.forrN {C : Calls} {chk : Bool} {pt : Pat} {k : Wk} {src : Ex} {body : St} {env : EnvD} {S : Sto} {E : Nat → List D → Prop} {ws : List W} {S1 : Sto} {ds its : List D} (I : Nat → EnvD → Sto → Prop) (h1 : evL C src env S = .ret (ws, S1)) (h2 : mapO datW ws = some ds) (h3 : walkD k ds = some its) (h4 : fewD chk its = true) (h0 : I 0 env S1)
    (h : ∀ i d, its[i]? = some d → ∀ env S, I i env S → ∃ env', bindP pt d env = some env' ∧ Tri C body env' S (NX (I (i + 1))) E) : Tri C (.forr chk pt k src body) env S (NX (I its.length)) E := ⟨by
  simp only [exB, h1, bnd_ret, h2, opt_some, h3, h4, if_true]
  have := forL_invN (f := fun env' S' => exB C body env' S') (pt := pt) (E := E) (I := I) its 0 env S1 h0 fun i d hd env S hI => by
    rw [Nat.zero_add] at hI ⊢
    exact (h i d hd env S hI).imp fun env' q => ⟨q.1, q.2.run⟩
  rw [Nat.zero_add] at this
  exact this⟩
/-- a comprehension that draws and keeps all -/
theorem compL_wpE {f : EnvD → Sto → M (Option D × Sto)} {pt : Pat} {env : EnvD} {S : Sto} {P : D → Prop} {E : Nat → List D → Prop} : ∀ (ds acc : List D), (∀ d ∈ ds, ∃ env', bindP pt d env = some env' ∧ (f env' S).wp (fun r => r.2 = S ∧ ∃ y, r.1 = some y ∧ P y) fun _ _ => False) → acc.length + ds.length ≤ lim → (∀ y ∈ acc, P y) →
    (compL f pt env ds acc S).wp (fun r => r.2 = S ∧ (∀ y ∈ r.1, P y) ∧ r.1.length = acc.length + ds.length) E
  | [], acc, _, hl, ha => by
    simp only [compL]
    exact ⟨rfl, ha, by simp⟩
  | d :: ds, acc, h, hl, ha => by
    obtain ⟨env', e1, e2⟩ := h d (List.mem_cons_self ..)
    simp only [compL, e1]
    rw [List.length_cons] at hl
    rw [M.wp_bnd, M.wp_noexc]
    refine M.wp_mono _ e2 (fun r hr => ?_) fun _ _ q => q.elim
    obtain ⟨y', S'⟩ := r
    obtain ⟨hS, y, hy, hp⟩ := hr
    have hS : S' = S := hS
    have hy : y' = some y := hy
    subst hS hy
    show (if acc.length < lim then _ else _ : M (List D × Sto)).wp _ _
    rw [if_pos (by omega)]
    refine M.wp_mono _ (compL_wpE ds (acc ++ [y]) (fun d hd => h d (List.mem_cons_of_mem _ hd)) (by rw [List.length_append, List.length_singleton]; omega) fun z hz => ?_) (fun r q => ⟨q.1, q.2.1, by rw [List.length_cons]; have := q.2.2; rw [List.length_append, List.length_singleton] at this; omega⟩) fun _ _ q => q
    rcases List.mem_append.mp hz with hz | hz
    · exact ha z hz
    · rw [List.mem_singleton.mp hz]
      exact hp
theorem wp_of_eq {α : Type} {m : M α} {a : α} {Q : α → Prop} {E : Nat → List D → Prop} (h : m = .ret a) (q : Q a) : m.wp Q E := by rw [h]; exact q
/-! statements in a row -/
theorem sq {C : Calls} {s t : St} {env env' : EnvD} {S S' : Sto} (h : exB C s env S = .ret (.nx, env', S')) : exB C (.cons s t) env S = exB C t env' S' := by
  simp only [exB, h, bnd_ret]
theorem sqR {C : Calls} {s t : St} {env env' : EnvD} {S S' : Sto} {w : W} (h : exB C s env S = .ret (.rt w, env', S')) : exB C (.cons s t) env S = .ret (.rt w, env', S') := by
  simp only [exB, h, bnd_ret]
theorem sq0 {C : Calls} {env : EnvD} {S : Sto} : exB C .nil env S = .ret (.nx, env, S) := by simp only [exB]
theorem sq1 {C : Calls} {s : St} {env env' : EnvD} {S S' : Sto} (h : exB C s env S = .ret (.nx, env', S')) : exB C (.cons s .nil) env S = .ret (.nx, env', S') := (sq h).trans sq0
theorem fn_ret {T : Nat → Option Fn} {n f : Nat} {g : Fn} {ds : List D} {d : D} {env : EnvD} {S : Sto} (h : T f = some g) (hl : ds.length = g.pars) (hb : exB (run T n) g.body (ds.map (fun d => some (W.d d)) ++ List.replicate (g.slots - ds.length) none) [] = .ret (.rt (.d d), env, S)) : dcall (run T (n + 1)) f ds = .ret d := by
  rw [run_fn h hl, hb]
  rfl
/-- told so that it is not unfolded by chance -/
structure Wp {α : Type} (m : M α) (Q : α → Prop) (E : Nat → List D → Prop) : Prop where
  run : m.wp Q E
theorem fn_wp {T : Nat → Option Fn} {n f : Nat} {g : Fn} {ds : List D} {Q : D → Prop} {E : Nat → List D → Prop} (h : T f = some g) (hl : ds.length = g.pars) (hb : Tri (run T n) g.body (ds.map (fun d => some (W.d d)) ++ List.replicate (g.slots - ds.length) none) [] (fun r => ∃ d, r.1 = .rt (.d d) ∧ Q d) E) : Wp (dcall (run T (n + 1)) f ds) Q E := ⟨by
  rw [run_fn h hl, M.wp_bnd]
  refine M.wp_mono _ hb.run (fun r hr => ?_) fun _ _ q => q
  obtain ⟨fl, env', S'⟩ := r
  obtain ⟨d, e, hq⟩ := hr
  have e : fl = .rt (.d d) := e
  subst e
  exact hq⟩
/-- a name takes what a call gives -/
theorem Tri.asgCall {C : Calls} {i f : Nat} {as : Ex} {env : EnvD} {S S1 : Sto} {ws : List W} {ds : List D} {P : D → Prop} {E : Nat → List D → Prop} (h1 : evL C as env S = .ret (ws, S1)) (h2 : mapO datW ws = some ds) (hc : Wp (dcall C f ds) P E) (hi : i < env.length) : Tri C (.asg i (.call f as)) env S (NX fun env' S' => S' = S1 ∧ ∃ d, P d ∧ env' = env.set i (some (.d d))) E := ⟨by
  simp only [exB, evE, h1, bnd_ret, h2, opt_some]
  rw [M.wp_bnd, M.wp_bnd]
  refine M.wp_mono _ hc.run (fun d hd => ?_) fun _ _ q => q
  show (M.opt (setW env i (.d d)) fun env' => (.ret (.nx, env', S1) : M (Fl × EnvD × Sto))).wp _ _
  unfold setW
  rw [if_pos hi]
  exact ⟨rfl, rfl, d, hd, rfl⟩⟩
/-- not so, where a call says True: nothing -/
theorem Tri.ifNotCall {C : Calls} {f : Nat} {as : Ex} {a : St} {env : EnvD} {S S1 : Sto} {ws : List W} {ds : List D} {E : Nat → List D → Prop} (h1 : evL C as env S = .ret (ws, S1)) (h2 : mapO datW ws = some ds) (hc : Wp (dcall C f ds) (fun d => d = .bl true) E) : Tri C (.ife (.not (.call f as)) a .nil) env S (NX fun env' S' => S' = S1 ∧ env' = env) E := ⟨by
  simp only [exB, tstE, evE, h1, bnd_ret, h2, opt_some]
  rw [M.wp_bnd, M.wp_bnd, M.wp_bnd, M.wp_bnd]
  refine M.wp_mono _ hc.run (fun d hd => ?_) fun _ _ q => q
  subst hd
  exact ⟨rfl, rfl, rfl⟩⟩
theorem Tri.ret {C : Calls} {s t : St} {env env' : EnvD} {S S' : Sto} {w : W} {Q : Fl × EnvD × Sto → Prop} {E : Nat → List D → Prop} (h : exB C s env S = .ret (.rt w, env', S')) (q : Q (.rt w, env', S')) : Tri C (.cons s t) env S Q E := ⟨wp_of_eq (sqR h) q⟩
/-- a source that draws: how many turns there are -/
theorem Tri.forrD {C : Calls} {chk : Bool} {pt : Pat} {k : Wk} {src : Ex} {body : St} {env : EnvD} {S : Sto} {Q : Fl × EnvD × Sto → Prop} {E : Nat → List D → Prop} (P : List W → Prop) (h1 : (evL C src env S).wp (fun r => r.2 = S ∧ P r.1) E)
    (h : ∀ ws, P ws → ∃ ds its, mapO datW ws = some ds ∧ walkD k ds = some its ∧ fewD chk its = true ∧ (forL (fun env' S' => exB C body env' S') pt its env S).wp Q E) : Tri C (.forr chk pt k src body) env S Q E := ⟨by
  simp only [exB]
  rw [M.wp_bnd]
  refine M.wp_mono _ h1 (fun r hr => ?_) fun _ _ q => q
  obtain ⟨ws, S'⟩ := r
  obtain ⟨e, hp⟩ := hr
  have e : S' = S := e
  subst e
  obtain ⟨ds, its, g1, g2, g3, g4⟩ := h ws hp
  simp only [g1, opt_some, g2, g3, if_true]
  exact g4⟩
theorem ife_of {C : Calls} {c : Ex} {a b : St} {env : EnvD} {S : Sto} {k : Bool} (h : tstE C c env S = .ret (k, S)) : exB C (.ife c a b) env S = if k then exB C a env S else exB C b env S := by
  simp only [exB, h, bnd_ret]
/-! rows of ints -/
def dR (r : List Int) : D := .lst (r.map .int)
def dM (m : List (List Int)) : D := .lst (m.map dR)
theorem dR_nil : (.lst [] : D) = dR [] := rfl
theorem getElem?_map_some {α β : Type} {f : α → β} {l : List α} {i : Nat} {b : β} (h : (l.map f)[i]? = some b) : ∃ a, l[i]? = some a ∧ b = f a := by
  rw [List.getElem?_map] at h
  cases e : l[i]? with
  | none => rw [e] at h; cases h
  | some a => rw [e] at h; exact ⟨a, rfl, (Option.some.inj h).symm⟩
theorem upD_map : ∀ (n : Nat) (lo : Nat), upD (lo : Int) n = (List.range' lo n).map fun (i : Nat) => D.int (i : Int)
  | 0, lo => rfl
  | n + 1, lo => by
    simp only [upD, List.range'_succ, List.map_cons]
    have := upD_map n (lo + 1)
    rw [← this]
    rfl
theorem zipD_map {α β : Type} (f : α → D) (g : β → D) : ∀ (a : List α) (b : List β), zipD (a.map f) (b.map g) = (a.zip b).map fun p => .tup [f p.1, g p.2]
  | [], b => by cases b <;> rfl
  | x :: a, [] => rfl
  | x :: a, y :: b => by
    simp only [List.map_cons, zipD, List.zip_cons_cons, zipD_map f g a b]
theorem intsD_map : ∀ r : List Int, intsD (r.map .int) = some r
  | [] => rfl
  | x :: r => by
    show (intsD (r.map .int)).map (x :: ·) = _
    rw [intsD_map r]
    rfl
end RL
end

section
set_option linter.all false
/-! BA1: minors by rows and columns; what fraction-free elimination divides. Own work. -/
namespace BA
abbrev Row := Nat → Int
/-- a sum with signs over the columns, one of them left out -/
def ex (g : List Nat → Int) (r : Row) : List Nat → List Nat → Int
  | _, [] => 0
  | pre, c :: cs => r c * g (pre ++ cs) - ex g r (pre ++ [c]) cs
/-- the minor of these rows at these columns -/
def E : List Row → List Nat → Int
  | [], [] => 1
  | [], _ :: _ => 0
  | r :: rs, cs => ex (E rs) r [] cs
/-- a sum over the columns' places -/
def sumS (f : List Nat → Nat → List Nat → Int) : List Nat → List Nat → List Nat → Int
  | _, [], _ => 0
  | pre, c :: cs, tl => f pre c (cs ++ tl) + sumS f (pre ++ [c]) cs tl

def Anti (g : List Nat → Int) : Prop := ∀ p a b q, g (p ++ a :: b :: q) = - g (p ++ b :: a :: q)
theorem ex_pre {g : List Nat → Int} (hg : Anti g) (r : Row) (a b : Nat) : ∀ (q p s : List Nat), ex g r (p ++ a :: b :: s) q = - ex g r (p ++ b :: a :: s) q
  | [], p, s => by simp [ex]
  | c :: q, p, s => by
    have h1 := hg p a b (s ++ q)
    have h2 := ex_pre hg r a b q p (s ++ [c])
    simp only [ex, List.append_assoc, List.cons_append] at h1 h2 ⊢
    rw [h1, h2]
    grind
theorem ex_anti {g : List Nat → Int} (hg : Anti g) (r : Row) (a b : Nat) (q : List Nat) : ∀ (p pre : List Nat), ex g r pre (p ++ a :: b :: q) = - ex g r pre (p ++ b :: a :: q)
  | [], pre => by
    have h := ex_pre hg r a b q pre []
    simp only [ex, List.nil_append, List.append_assoc, List.cons_append] at h ⊢
    rw [h]
    grind
  | c :: p, pre => by
    have h1 := hg (pre ++ p) a b q
    have h2 := ex_anti hg r a b q p (pre ++ [c])
    simp only [ex, List.append_assoc, List.cons_append] at h1 h2 ⊢
    rw [h1, h2]
    grind
theorem E_anti : ∀ T : List Row, Anti (E T)
  | [] => fun p a b q => by cases p <;> simp [E]
  | r :: T => fun p a b q => by
    simp only [E]
    exact ex_anti (E_anti T) r a b q p []
theorem anti_rep {g : List Nat → Int} (hg : Anti g) (a : Nat) (s : List Nat) : ∀ (q p : List Nat), g (p ++ a :: (q ++ a :: s)) = 0
  | [], p => by
    have h := hg p a a s
    simp only [List.nil_append]
    omega
  | b :: q, p => by
    have h := hg p a b (q ++ a :: s)
    have h2 := anti_rep hg a s q (p ++ [b])
    simp only [List.append_assoc, List.cons_append, List.nil_append] at h h2 ⊢
    rw [h, h2]
    rfl
theorem anti_swap {g : List Nat → Int} (hg : Anti g) (a b : Nat) (s : List Nat) : ∀ (q p : List Nat), g (p ++ a :: (q ++ b :: s)) = - g (p ++ b :: (q ++ a :: s))
  | [], p => hg p a b s
  | c :: q, p => by
    have h1 := hg p a c (q ++ b :: s)
    have h2 := anti_swap hg a b s q (p ++ [c])
    have h3 := hg p c b (q ++ a :: s)
    simp only [List.append_assoc, List.cons_append, List.nil_append] at h1 h2 h3 ⊢
    rw [h1, h2, h3]
    grind
theorem anti_mem {g : List Nat → Int} (hg : Anti g) {a : Nat} {p q : List Nat} (h : a ∈ p ∨ a ∈ q) : g (p ++ a :: q) = 0 := by
  rcases h with h | h
  · obtain ⟨p1, p2, rfl⟩ := List.append_of_mem h
    have := anti_rep hg a q p2 p1
    simpa only [List.append_assoc, List.cons_append] using this
  · obtain ⟨q1, q2, rfl⟩ := List.append_of_mem h
    exact anti_rep hg a q2 q1 p
/-! sums -/
theorem sumS_app (f : List Nat → Nat → List Nat → Int) : ∀ (l1 l2 pre tl : List Nat), sumS f pre (l1 ++ l2) tl = sumS f pre l1 (l2 ++ tl) + sumS f (pre ++ l1) l2 tl
  | [], l2, pre, tl => by simp [sumS]
  | c :: l1, l2, pre, tl => by
    have h := sumS_app f l1 l2 (pre ++ [c]) tl
    simp only [sumS, List.cons_append, List.append_assoc, List.nil_append] at h ⊢
    rw [h]
    grind
theorem sumS_congr {f g : List Nat → Nat → List Nat → Int} {p2 t2 : List Nat} : ∀ (l pre tl : List Nat), (∀ a c b, l = a ++ c :: b → f (pre ++ a) c (b ++ tl) = g (p2 ++ a) c (b ++ t2)) → sumS f pre l tl = sumS g p2 l t2 := by
  intro l
  induction l generalizing p2 with
  | nil => intro pre tl h; simp [sumS]
  | cons c l ih =>
    intro pre tl h
    have h0 := h [] c l rfl
    have h1 := ih (p2 := p2 ++ [c]) (pre ++ [c]) tl fun a c' b e => by
      have := h (c :: a) c' b (by rw [e]; rfl)
      simpa only [List.append_assoc, List.cons_append, List.nil_append] using this
    simp only [List.append_nil] at h0
    simp only [sumS, h0, h1]
theorem sumS_zero {f : List Nat → Nat → List Nat → Int} : ∀ (l pre tl : List Nat), (∀ a c b, l = a ++ c :: b → f (pre ++ a) c (b ++ tl) = 0) → sumS f pre l tl = 0 := by
  intro l
  induction l with
  | nil => intro pre tl h; rfl
  | cons c l ih =>
    intro pre tl h
    have h0 := h [] c l rfl
    have h1 := ih (pre ++ [c]) tl fun a c' b e => by
      have := h (c :: a) c' b (by rw [e]; rfl)
      simpa only [List.append_assoc, List.cons_append, List.nil_append] using this
    simp only [List.append_nil] at h0
    simp only [sumS, h0, h1]
    rfl
theorem sumS_mul (k : Int) (f : List Nat → Nat → List Nat → Int) : ∀ (l pre tl : List Nat), sumS (fun p c q => k * f p c q) pre l tl = k * sumS f pre l tl
  | [], pre, tl => by simp [sumS]
  | c :: l, pre, tl => by
    simp only [sumS, sumS_mul k f l]
    grind
theorem sumS_sub (f g : List Nat → Nat → List Nat → Int) : ∀ (l pre tl : List Nat), sumS (fun p c q => f p c q - g p c q) pre l tl = sumS f pre l tl - sumS g pre l tl
  | [], pre, tl => by simp [sumS]
  | c :: l, pre, tl => by
    simp only [sumS, sumS_sub f g l]
    grind
/-- the first row's expansion, the new column put in the places of the others -/
theorem ex_put {g : List Nat → Int} (hg : Anti g) (r : Row) (x : Nat) : ∀ (cs p : List Nat), ex g r (p ++ [x]) cs = sumS (fun p c q => r c * g (p ++ x :: q)) p cs []
  | [], p => rfl
  | c :: cs, p => by
    have h := ex_put hg r x cs (p ++ [c])
    have h2 := ex_pre hg r x c cs p []
    simp only [ex, sumS, List.append_assoc, List.cons_append, List.nil_append, List.append_nil] at h h2 ⊢
    rw [h2, h]
    grind
theorem E_cons (v : Row) (T : List Row) (x : Nat) (cs : List Nat) : E (v :: T) (x :: cs) = v x * E T cs - sumS (fun p c q => v c * E T (p ++ x :: q)) [] cs [] := by
  show ex (E T) v [] (x :: cs) = _
  have h := ex_put (E_anti T) v x cs []
  simp only [ex, List.nil_append] at h ⊢
  rw [h]
/-! a column that is a sum of others -/
section
variable {d : Int} {x : Nat} {u : List Nat → Nat → List Nat → Int} {cs : List Nat}
def Lin (d : Int) (x : Nat) (u : List Nat → Nat → List Nat → Int) (cs : List Nat) (g : List Nat → Int) : Prop := ∀ p q, d * g (p ++ x :: q) = sumS (fun a c b => u a c b * g (p ++ c :: q)) [] cs []
theorem ex_lin_pre {g : List Nat → Int} (hg : Lin d x u cs g) (r : Row) : ∀ (q p s : List Nat), d * ex g r (p ++ x :: s) q = sumS (fun a c b => u a c b * ex g r (p ++ c :: s) q) [] cs []
  | [], p, s => by
    simp only [ex]
    rw [Int.mul_zero]
    exact (sumS_zero _ _ _ fun _ _ _ _ => Int.mul_zero _).symm
  | e :: q, p, s => by
    have h1 := hg p (s ++ q)
    have h2 := ex_lin_pre hg r q p (s ++ [e])
    simp only [ex, List.append_assoc, List.cons_append] at h1 h2 ⊢
    have e1 : d * (r e * g (p ++ x :: (s ++ q)) - ex g r (p ++ x :: (s ++ [e])) q) = r e * (d * g (p ++ x :: (s ++ q))) - d * ex g r (p ++ x :: (s ++ [e])) q := by grind
    rw [e1, h1, h2, ← sumS_mul, ← sumS_sub]
    refine sumS_congr _ _ _ fun a c b _ => ?_
    grind
theorem ex_lin {g : List Nat → Int} (hg : Lin d x u cs g) {r : Row} (hr : d * r x = sumS (fun a c b => u a c b * r c) [] cs []) (q : List Nat) : ∀ (p pre : List Nat), d * ex g r pre (p ++ x :: q) = sumS (fun a c b => u a c b * ex g r pre (p ++ c :: q)) [] cs []
  | [], pre => by
    have h2 := ex_lin_pre hg r q pre []
    simp only [ex, List.nil_append] at h2 ⊢
    have e1 : d * (r x * g (pre ++ q) - ex g r (pre ++ [x]) q) = g (pre ++ q) * (d * r x) - d * ex g r (pre ++ [x]) q := by grind
    rw [e1, hr, h2, ← sumS_mul, ← sumS_sub]
    refine sumS_congr _ _ _ fun a c b _ => ?_
    grind
  | e :: p, pre => by
    have h1 := hg (pre ++ p) q
    have h2 := ex_lin hg hr q p (pre ++ [e])
    simp only [ex, List.append_assoc, List.cons_append] at h1 h2 ⊢
    have e1 : d * (r e * g (pre ++ (p ++ x :: q)) - ex g r (pre ++ [e]) (p ++ x :: q)) = r e * (d * g (pre ++ (p ++ x :: q))) - d * ex g r (pre ++ [e]) (p ++ x :: q) := by grind
    rw [e1, h1, h2, ← sumS_mul, ← sumS_sub]
    refine sumS_congr _ _ _ fun a c b _ => ?_
    grind
theorem E_lin : ∀ {T : List Row}, (∀ m ∈ T, d * m x = sumS (fun a c b => u a c b * m c) [] cs []) → Lin d x u cs (E T)
  | [], _ => fun p q => by
    have e : ∀ z, E [] (p ++ z :: q) = 0 := fun z => by cases p <;> simp [E]
    rw [e, Int.mul_zero]
    exact (sumS_zero _ _ _ fun _ _ _ _ => by rw [e]; exact Int.mul_zero _).symm
  | r :: T, h => fun p q => by
    simp only [E]
    exact ex_lin (E_lin fun m hm => h m (List.mem_cons_of_mem _ hm)) (h r (List.mem_cons_self ..)) q p []
end
/-! the stage of an elimination -/
/-- all that is taken is spent -/
def Spent (T : List Row) (cs : List Nat) : Prop := ∀ m ∈ T, ∀ x, E (m :: T) (x :: cs) = 0
section
variable {T : List Row} {cs : List Nat}
theorem Spent.col (h : Spent T cs) {m : Row} (hm : m ∈ T) (x : Nat) : E T cs * m x = sumS (fun a c b => E T (a ++ x :: b) * m c) [] cs [] := by
  have h1 := h m hm x
  rw [E_cons] at h1
  have h2 : sumS (fun p c q => m c * E T (p ++ x :: q)) [] cs [] = sumS (fun a c b => E T (a ++ x :: b) * m c) [] cs [] := sumS_congr _ _ _ fun a c b _ => Int.mul_comm _ _
  rw [h2] at h1
  have h3 : E T cs * m x = m x * E T cs := Int.mul_comm _ _
  omega
/-- two places exchanged for others -/
theorem two {p q s : List Nat} {a b : Nat} (h : Spent T (p ++ a :: (q ++ b :: s))) (x y : Nat) :
    E T (p ++ a :: (q ++ b :: s)) * E T (p ++ x :: (q ++ y :: s)) = E T (p ++ x :: (q ++ b :: s)) * E T (p ++ a :: (q ++ y :: s)) - E T (p ++ a :: (q ++ x :: s)) * E T (p ++ y :: (q ++ b :: s)) := by
  have hl := E_lin (u := fun a c b => E T (a ++ x :: b)) (fun m hm => h.col hm x) p (q ++ y :: s)
  rw [hl, sumS_app]
  simp only [List.nil_append, List.append_nil]
  have z1 : sumS (fun a c b => E T (a ++ x :: b) * E T (p ++ c :: (q ++ y :: s))) [] p (a :: (q ++ b :: s)) = 0 := sumS_zero _ _ _ fun a1 c b1 e => by
    have z : E T (p ++ c :: (q ++ y :: s)) = 0 := anti_mem (E_anti T) (.inl (by rw [e]; simp))
    rw [z, Int.mul_zero]
  rw [z1]
  simp only [sumS, List.append_nil]
  rw [sumS_app]
  have z2 : sumS (fun a c b => E T (a ++ x :: b) * E T (p ++ c :: (q ++ y :: s))) (p ++ [a]) q (b :: s ++ []) = 0 := sumS_zero _ _ _ fun a1 c b1 e => by
    have z : E T (p ++ c :: (q ++ y :: s)) = 0 := anti_mem (E_anti T) (.inr (by rw [e]; simp))
    rw [z, Int.mul_zero]
  rw [z2]
  simp only [sumS, List.append_nil]
  have z3 : sumS (fun a c b => E T (a ++ x :: b) * E T (p ++ c :: (q ++ y :: s))) (p ++ [a] ++ q ++ [b]) s [] = 0 := sumS_zero _ _ _ fun a1 c b1 e => by
    have z : E T (p ++ c :: (q ++ y :: s)) = 0 := anti_mem (E_anti T) (.inr (by rw [e]; simp))
    rw [z, Int.mul_zero]
  rw [z3]
  have sw := anti_swap (E_anti T) b y s q p
  simp only [List.append_assoc, List.cons_append, List.nil_append] at sw ⊢
  rw [sw]
  grind
/-- an upper row's step -/
theorem up_step {p q : List Nat} {a : Nat} (h : Spent T (p ++ a :: q)) (t : Row) (c x : Nat) :
    E T (p ++ x :: q) * E (t :: T) (c :: (p ++ a :: q)) - E T (p ++ c :: q) * E (t :: T) (x :: (p ++ a :: q)) = E T (p ++ a :: q) * E (t :: T) (c :: (p ++ x :: q)) := by
  rw [E_cons, E_cons, E_cons]
  rw [sumS_app, sumS_app, sumS_app]
  simp only [sumS, List.nil_append, List.append_nil]
  -- the places ahead
  have e1 : sumS (fun p' c' q' => E T (p ++ a :: q) * (t c' * E T (p' ++ c :: q'))) [] p (x :: q) =
      sumS (fun p' c' q' => E T (p ++ x :: q) * (t c' * E T (p' ++ c :: q')) - E T (p ++ c :: q) * (t c' * E T (p' ++ x :: q'))) [] p (a :: q) := by
    refine sumS_congr _ _ _ fun p1 b p2 e => ?_
    subst e
    have h' : Spent T (p1 ++ b :: (p2 ++ a :: q)) := by simpa only [List.append_assoc, List.cons_append] using h
    have h2 := two h' c x
    simp only [List.append_assoc, List.cons_append, List.nil_append] at h2 ⊢
    grind
  -- the places behind
  have e2 : sumS (fun p' c' q' => E T (p ++ a :: q) * (t c' * E T (p' ++ c :: q'))) (p ++ [x]) q [] =
      sumS (fun p' c' q' => E T (p ++ x :: q) * (t c' * E T (p' ++ c :: q')) - E T (p ++ c :: q) * (t c' * E T (p' ++ x :: q'))) (p ++ [a]) q [] := by
    refine sumS_congr _ _ _ fun q1 b q2 e => ?_
    subst e
    have h2 := two (p := p) (q := q1) (s := q2) (a := a) (b := b) h x c
    simp only [List.append_assoc, List.cons_append, List.nil_append, List.append_nil] at h2 ⊢
    grind
  simp only [sumS_sub, sumS_mul] at e1 e2
  grind
/-- a lower row's step -/
theorem low_step (h : Spent T cs) (t v : Row) (c x : Nat) :
    E (v :: T) (x :: cs) * E (t :: T) (c :: cs) - E (v :: T) (c :: cs) * E (t :: T) (x :: cs) = E T cs * E (v :: t :: T) (x :: c :: cs) := by
  rw [E_cons v (t :: T) x (c :: cs)]
  simp only [sumS, List.nil_append, List.append_nil]
  have e1 : sumS (fun p c' q => E T cs * (v c' * E (t :: T) (p ++ x :: q))) [c] cs [] =
      sumS (fun p c' q => E (t :: T) (c :: cs) * (v c' * E T (p ++ x :: q)) - E (t :: T) (x :: cs) * (v c' * E T (p ++ c :: q))) [] cs [] := by
    refine sumS_congr _ _ _ fun p1 b p2 e => ?_
    subst e
    have h2 := up_step h t c x
    simp only [List.append_assoc, List.cons_append, List.nil_append, List.append_nil] at h2 ⊢
    grind
  simp only [sumS_sub, sumS_mul] at e1
  rw [E_cons v T x cs, E_cons v T c cs]
  have e0 : E (t :: T) (c :: cs) * v x * E T cs = v x * (E T cs * E (t :: T) (c :: cs)) := by grind
  grind
/-- what is taken is spent -/
theorem spent_step (h : Spent T cs) (hd : E T cs ≠ 0) {t : Row} {c : Nat} : Spent (t :: T) (c :: cs) := by
  intro m hm x
  have h1 := low_step h t m c x
  have z : E (m :: T) (x :: cs) * E (t :: T) (c :: cs) - E (m :: T) (c :: cs) * E (t :: T) (x :: cs) = 0 := by
    rcases List.mem_cons.mp hm with e | hm
    · subst e
      grind
    · rw [h m hm x, h m hm c]
      grind
  rw [z] at h1
  rcases Int.mul_eq_zero.mp h1.symm with q | q
  · exact absurd q hd
  · exact q
theorem spent_nil : Spent [] [] := fun m hm => by cases hm
end
end BA
end

section
set_option linter.all false
/-! BA2: elimination over lists of rows: leads, upper rows, lower rows. Own work. -/
namespace BA
def cell (r : List Int) (x : Nat) : Int := r.getD x 0
abbrev vec (r : List Int) : Row := cell r
/-- row with line's column taken away -/
def clr (row line : List Int) (c : Nat) (d : Int) : List Int := List.zipWith (fun p q => (p * cell line c - cell row c * q).fdiv d) row line
theorem clr_length {row line : List Int} {c : Nat} {d : Int} {n : Nat} (h1 : row.length = n) (h2 : line.length = n) : (clr row line c d).length = n := by
  simp [clr, h1, h2]
theorem clr_cell {row line : List Int} {c : Nat} {d : Int} (h : row.length = line.length) (x : Nat) : cell (clr row line c d) x = (cell row x * cell line c - cell row c * cell line x).fdiv d := by
  unfold clr
  show (List.zipWith _ row line).getD x 0 = _
  by_cases hx : x < row.length
  · have hx2 : x < line.length := by omega
    rw [List.getD_eq_getElem?_getD, List.getElem?_zipWith]
    have e1 : row[x]? = some row[x] := List.getElem?_eq_getElem hx
    have e2 : line[x]? = some line[x] := List.getElem?_eq_getElem hx2
    rw [e1, e2]
    have e3 : cell row x = row[x] := by unfold cell; rw [List.getD_eq_getElem?_getD, e1]; rfl
    have e4 : cell line x = line[x] := by unfold cell; rw [List.getD_eq_getElem?_getD, e2]; rfl
    rw [e3, e4]
    rfl
  · have e3 : cell row x = 0 := by unfold cell; rw [List.getD_eq_getElem?_getD, List.getElem?_eq_none (by omega)]; rfl
    have e4 : cell line x = 0 := by unfold cell; rw [List.getD_eq_getElem?_getD, List.getElem?_eq_none (by omega)]; rfl
    rw [e3, e4, List.getD_eq_getElem?_getD, List.getElem?_eq_none (by simp; omega)]
    simp
theorem cell_ge {r : List Int} {x : Nat} (h : r.length ≤ x) : cell r x = 0 := by unfold cell; rw [List.getD_eq_getElem?_getD, List.getElem?_eq_none h]; rfl
theorem fdiv_of {a b d : Int} (hd : d ≠ 0) (h : a = d * b) : a.fdiv d = b := by
  rw [h, Int.mul_comm]
  exact Int.mul_fdiv_cancel _ hd

/-! sums of rows -/
inductive Span (R : List Row) : Row → Prop
  | zero : Span R (fun _ => 0)
  | add (k : Int) {r w : Row} : r ∈ R → Span R w → Span R (fun x => k * r x + w x)
theorem Span.mono {R R' : List Row} (h : ∀ r ∈ R, r ∈ R') {w : Row} (s : Span R w) : Span R' w := by
  induction s with
  | zero => exact .zero
  | add k hr _ ih => exact .add k (h _ hr) ih
theorem Span.plus {R : List Row} {v w : Row} (s : Span R v) (t : Span R w) : Span R (fun x => v x + w x) := by
  induction s with
  | zero =>
    have e : (fun x => (0 : Int) + w x) = w := by funext x; exact Int.zero_add _
    rw [e]
    exact t
  | add k hr _ ih =>
    rename_i r w' _
    have e : (fun x => k * r x + w' x + w x) = fun x => k * r x + (w' x + w x) := by funext x; exact Int.add_assoc ..
    rw [e]
    exact .add k hr ih
theorem Span.times {R : List Row} (c : Int) {w : Row} (s : Span R w) : Span R (fun x => c * w x) := by
  induction s with
  | zero =>
    have e : (fun _ : Nat => c * (0 : Int)) = fun _ => 0 := by funext x; exact Int.mul_zero _
    rw [e]
    exact .zero
  | add k hr _ ih =>
    rename_i r w' _
    have e : (fun x => c * (k * r x + w' x)) = fun x => c * k * r x + c * w' x := by funext x; grind
    rw [e]
    exact .add _ hr ih
theorem Span.of {R : List Row} {r : Row} (h : r ∈ R) : Span R r := by
  have e : r = fun x => 1 * r x + 0 := by funext x; grind
  rw [e]
  exact .add 1 h .zero
theorem ex_span_pre {R : List Row} {g : List Nat → Int} (hg : ∀ p q, Span R (fun x => g (p ++ x :: q))) (r : Row) : ∀ (q p s : List Nat), Span R (fun x => ex g r (p ++ x :: s) q)
  | [], p, s => .zero
  | e :: q, p, s => by
    have h1 := (hg p (s ++ q)).times (r e)
    have h2 := (ex_span_pre hg r q p (s ++ [e])).times (-1)
    have h3 := h1.plus h2
    have e1 : (fun x => ex g r (p ++ x :: s) (e :: q)) = fun x => r e * g (p ++ x :: (s ++ q)) + -1 * ex g r (p ++ x :: (s ++ [e])) q := by
      funext x
      simp only [ex, List.append_assoc, List.cons_append]
      grind
    rw [e1]
    exact h3
theorem ex_span {R : List Row} {g : List Nat → Int} (hg : ∀ p q, Span R (fun x => g (p ++ x :: q))) {r : Row} (hr : r ∈ R) (q : List Nat) : ∀ (p pre : List Nat), Span R (fun x => ex g r pre (p ++ x :: q))
  | [], pre => by
    have h1 := (Span.of hr).times (g (pre ++ q))
    have h2 := (ex_span_pre hg r q pre []).times (-1)
    have h3 := h1.plus h2
    have e1 : (fun x => ex g r pre ([] ++ x :: q)) = fun x => g (pre ++ q) * r x + -1 * ex g r (pre ++ [x]) q := by
      funext x
      simp only [ex, List.nil_append]
      grind
    rw [e1]
    exact h3
  | e :: p, pre => by
    have h1 := (hg (pre ++ p) q).times (r e)
    have h2 := (ex_span hg hr q p (pre ++ [e])).times (-1)
    have h3 := h1.plus h2
    have e1 : (fun x => ex g r pre (e :: p ++ x :: q)) = fun x => r e * g (pre ++ p ++ x :: q) + -1 * ex g r (pre ++ [e]) (p ++ x :: q) := by
      funext x
      simp only [ex, List.append_assoc, List.cons_append]
      grind
    rw [e1]
    exact h3
theorem E_span {R : List Row} : ∀ {T : List Row}, (∀ r ∈ T, r ∈ R) → ∀ p q, Span R (fun x => E T (p ++ x :: q))
  | [], _, p, q => by
    have e : (fun x => E [] (p ++ x :: q)) = fun _ => 0 := by funext z; cases p <;> simp [E]
    rw [e]
    exact .zero
  | r :: T, h, p, q => by
    simp only [E]
    exact ex_span (E_span fun m hm => h m (List.mem_cons_of_mem _ hm)) (h r (List.mem_cons_self ..)) q p []
/-! what is linear in the first row -/
theorem ex_row {g : List Nat → Int} (k : Int) (r w : Row) : ∀ (cs pre : List Nat), ex g (fun x => k * r x + w x) pre cs = k * ex g r pre cs + ex g w pre cs
  | [], pre => by simp [ex]
  | c :: cs, pre => by
    simp only [ex, ex_row k r w cs]
    grind
theorem ex_row0 {g : List Nat → Int} : ∀ (cs pre : List Nat), ex g (fun _ => 0) pre cs = 0
  | [], pre => rfl
  | c :: cs, pre => by
    simp only [ex, ex_row0 cs]
    grind
/-- a column of nothing -/
theorem E_col0 {T : List Row} {x : Nat} (h : ∀ m ∈ T, m x = 0) (p q : List Nat) : E T (p ++ x :: q) = 0 := by
  have := E_lin (d := 1) (x := x) (u := fun _ _ _ => 0) (cs := []) (T := T) (fun m hm => by rw [h m hm]; rfl) p q
  simpa [sumS] using this

/-! a lead: some sum of the rows begins there -/
def Lead (R : List Row) (j : Nat) : Prop := ∃ w, Span R w ∧ (∀ x, x < j → w x = 0) ∧ w j ≠ 0
open Classical in
noncomputable def leads (R : List Row) (n : Nat) : List Nat := (List.range n).filter fun j => decide (Lead R j)
theorem leads_same {R R' : List Row} (h : ∀ r, r ∈ R ↔ r ∈ R') (n : Nat) : leads R n = leads R' n := by
  unfold leads
  congr 1
  funext j
  have : Lead R j ↔ Lead R' j := ⟨fun ⟨w, s, q⟩ => ⟨w, s.mono fun r hr => (h r).mp hr, q⟩, fun ⟨w, s, q⟩ => ⟨w, s.mono fun r hr => (h r).mpr hr, q⟩⟩
  exact decide_eq_decide.mpr this
/-- a stage: T taken at cs, L0 left, j columns done -/
structure Stage (R : List Row) (T L0 : List Row) (cs : List Nat) (j : Nat) : Prop where
  perm : R.Perm (T ++ L0)
  len : T.length = cs.length
  spent : Spent T cs
  nz : E T cs ≠ 0
  van : ∀ v ∈ L0, ∀ x, x < j → E (v :: T) (x :: cs) = 0
  cs : cs = (leads R j).reverse
theorem Stage.start (R : List Row) : Stage R [] R [] 0 := ⟨List.Perm.refl _, rfl, spent_nil, by decide, fun v _ x h => by omega, rfl⟩
theorem Stage.lt {R T L0 : List Row} {cs : List Nat} {j : Nat} (s : Stage R T L0 cs j) : ∀ c ∈ cs, c < j := fun c hc => by
  rw [s.cs, List.mem_reverse] at hc
  unfold leads at hc
  exact List.mem_range.mp (List.mem_filter.mp hc).1
theorem leads_succ (R : List Row) (j : Nat) : (Lead R j → leads R (j + 1) = leads R j ++ [j]) ∧ (¬ Lead R j → leads R (j + 1) = leads R j) := by
  unfold leads
  rw [List.range_succ, List.filter_append]
  refine ⟨fun h => ?_, fun h => ?_⟩
  · rw [List.filter_cons_of_pos (by simpa using h), List.filter_nil]
  · rw [List.filter_cons_of_neg (by simpa using h), List.filter_nil, List.append_nil]
/-- what a sum of the rows leaves -/
theorem Stage.span0 {R T L0 : List Row} {cs : List Nat} {j : Nat} (s : Stage R T L0 cs j) {y : Nat} (h0 : ∀ v ∈ L0, E (v :: T) (y :: cs) = 0) {w : Row} (hw : Span R w) : E (w :: T) (y :: cs) = 0 := by
  induction hw with
  | zero => exact ex_row0 _ _
  | add k hr _ ih =>
    rename_i r w' _
    show ex (E T) _ [] _ = 0
    rw [ex_row]
    have ih : ex (E T) w' [] (y :: cs) = 0 := ih
    have hr : ex (E T) r [] (y :: cs) = 0 := by
      rcases List.mem_append.mp (s.perm.mem_iff.mp hr) with h | h
      · exact s.spent r h y
      · exact h0 r h
    rw [ih, hr]
    grind
/-- no row is left at this column -/
theorem Stage.skip {R T L0 : List Row} {cs : List Nat} {j : Nat} (s : Stage R T L0 cs j) (h0 : ∀ v ∈ L0, E (v :: T) (j :: cs) = 0) : Stage R T L0 cs (j + 1) := by
  refine ⟨s.perm, s.len, s.spent, s.nz, fun v hv x hx => ?_, ?_⟩
  · by_cases e : x = j
    · subst e
      exact h0 v hv
    · exact s.van v hv x (by omega)
  · rw [(leads_succ R j).2 ?_]
    · exact s.cs
    · rintro ⟨w, hw, h1, h2⟩
      have q := s.span0 h0 hw
      rw [E_cons] at q
      rw [sumS_zero] at q
      · rcases Int.mul_eq_zero.mp (by omega : w j * E T cs = 0) with z | z
        · exact h2 z
        · exact s.nz z
      · intro a c b e
        rw [h1 c (s.lt c (by rw [e]; simp)), Int.zero_mul]
/-- a row is taken at this column -/
theorem Stage.take {R T L0 L1 : List Row} {t0 : Row} {cs : List Nat} {j : Nat} (s : Stage R T L0 cs j) (hp : L0.Perm (t0 :: L1)) (ht : E (t0 :: T) (j :: cs) ≠ 0) : Stage R (t0 :: T) L1 (j :: cs) (j + 1) := by
  have hm : ∀ v, v ∈ L1 → v ∈ L0 := fun v hv => hp.mem_iff.mpr (List.mem_cons_of_mem _ hv)
  have ht0 : t0 ∈ L0 := hp.mem_iff.mpr (List.mem_cons_self ..)
  refine ⟨?_, by simp [s.len], spent_step s.spent s.nz, ht, fun v hv x hx => ?_, ?_⟩
  · refine s.perm.trans ?_
    refine (List.Perm.append_left T hp).trans ?_
    exact List.perm_middle
  · have q := low_step s.spent t0 v j x
    have z : E (v :: T) (x :: cs) * E (t0 :: T) (j :: cs) - E (v :: T) (j :: cs) * E (t0 :: T) (x :: cs) = 0 := by
      by_cases e : x = j
      · subst e
        grind
      · rw [s.van v (hm v hv) x (by omega), s.van t0 ht0 x (by omega)]
        grind
    rw [z] at q
    rcases Int.mul_eq_zero.mp q.symm with z | z
    · exact absurd z s.nz
    · exact z
  · rw [(leads_succ R j).1 ?_, List.reverse_append, s.cs]
    · rfl
    · refine ⟨fun x => E (t0 :: T) (x :: cs), ?_, fun x hx => s.van t0 ht0 x hx, ht⟩
      have := E_span (R := R) (T := t0 :: T) (fun r hr => by
        refine s.perm.mem_iff.mpr (List.mem_append.mpr ?_)
        rcases List.mem_cons.mp hr with e | h
        · subst e; exact .inr ht0
        · exact .inl h) [] cs
      exact this
end BA
end

section
set_option linter.all false
/-! BA3: the elimination as the program does it. Own work. -/
namespace BA
/-- the upper rows, the last taken first -/
def ups (T : List Row) : List Nat → List Nat → List Row
  | _, [] => []
  | p, c :: q => (fun x => E T (p ++ x :: q)) :: ups T (p ++ [c]) q
def low (T : List Row) (cs : List Nat) (v : Row) : Row := fun x => E (v :: T) (x :: cs)
abbrev Rows := List (List Int)
def row (l : Rows) (i : Nat) : List Int := l.getD i []
/-- two places exchanged -/
def swp {α : Type} (d : α) (l : List α) (i j : Nat) : List α := (l.set i (l.getD j d)).set j (l.getD i d)
theorem getD_at {α : Type} {d : α} {l : List α} {j : Nat} (hj : j < l.length) : l.getD j d = l[j] := by rw [List.getD_eq_getElem?_getD, List.getElem?_eq_getElem hj]; rfl
theorem swp_perm {α : Type} {d : α} {l : List α} {i j : Nat} (hi : i < l.length) (hj : j < l.length) : (swp d l i j).Perm l := by
  unfold swp
  rw [getD_at hi, getD_at hj]
  exact List.set_set_perm hi hj
theorem swp_map {α β : Type} {d : α} {e : β} (f : α → β) {l : List α} {i j : Nat} (hi : i < l.length) (hj : j < l.length) : (swp d l i j).map f = swp e (l.map f) i j := by
  unfold swp
  rw [getD_at hi, getD_at hj, getD_at (l := l.map f) (j := j) (by simpa using hj), getD_at (l := l.map f) (j := i) (by simpa using hi), List.map_set, List.map_set, List.getElem_map, List.getElem_map]
theorem getD_app {α : Type} {d : α} (A L : List α) (i : Nat) : (A ++ L).getD (A.length + i) d = L.getD i d := by
  rw [List.getD_eq_getElem?_getD, List.getD_eq_getElem?_getD, List.getElem?_append_right (Nat.le_add_right _ _), Nat.add_sub_cancel_left]
theorem swp_app {α : Type} {d : α} (A L : List α) (i : Nat) : swp d (A ++ L) A.length (A.length + i) = A ++ swp d L 0 i := by
  unfold swp
  have e0 : (A ++ L).getD A.length d = L.getD 0 d := getD_app A L 0
  rw [getD_app, e0, List.set_append_right _ _ (Nat.le_refl _), Nat.sub_self, List.set_append_right _ _ (Nat.le_add_right _ _), Nat.add_sub_cancel_left]
theorem swp_ne {α : Type} {d : α} {L : List α} {i : Nat} (hi : i < L.length) : ∃ L1, swp d L 0 i = L.getD i d :: L1 := by
  unfold swp
  cases L with
  | nil => simp at hi
  | cons a L =>
    cases i with
    | zero => exact ⟨L, by simp⟩
    | succ i => exact ⟨_, by simp; rfl⟩
/-- the places from k on of rows that are not 0 there -/
def spots (l : Rows) (c : Nat) : Nat → Nat → List Nat
  | _, 0 => []
  | k, m + 1 => if cell (row l k) c ≠ 0 then k :: spots l c (k + 1) m else spots l c (k + 1) m
theorem spots_nil {l : Rows} {c : Nat} : ∀ {m k : Nat}, spots l c k m = [] → ∀ i, i < m → cell (row l (k + i)) c = 0
  | 0, k, _, i, h => by omega
  | m + 1, k, h, i, hi => by
    unfold spots at h
    split at h
    · cases h
    · rename_i hc
      cases i with
      | zero => simpa using hc
      | succ i =>
        have := spots_nil h i (by omega)
        rw [show k + 1 + i = k + (i + 1) by omega] at this
        exact this
theorem spots_cons {l : Rows} {c : Nat} : ∀ {m k s : Nat} {r : List Nat}, spots l c k m = s :: r → ∃ i, s = k + i ∧ i < m ∧ cell (row l s) c ≠ 0
  | 0, k, s, r, h => by cases h
  | m + 1, k, s, r, h => by
    unfold spots at h
    split at h
    · rename_i hc
      cases h
      exact ⟨0, rfl, by omega, hc⟩
    · obtain ⟨i, h1, h2, h3⟩ := spots_cons h
      exact ⟨i + 1, by omega, by omega, h3⟩
/-- all rows but one are cleared -/
def clrs (k : Nat) (t : List Int) (c : Nat) (d : Int) : Nat → Rows → Rows
  | _, [] => []
  | i, r :: l => (if i = k then r else clr r t c d) :: clrs k t c d (i + 1) l
theorem clrs_app (k : Nat) (t : List Int) (c : Nat) (d : Int) : ∀ (l1 l2 : Rows) (i : Nat), clrs k t c d i (l1 ++ l2) = clrs k t c d i l1 ++ clrs k t c d (i + l1.length) l2
  | [], l2, i => rfl
  | r :: l1, l2, i => by
    simp only [List.cons_append, clrs, clrs_app k t c d l1 l2, List.length_cons]
    rw [show i + 1 + l1.length = i + (l1.length + 1) by omega]
theorem clrs_lt {k : Nat} {t : List Int} {c : Nat} {d : Int} : ∀ {l : Rows} {i : Nat}, i + l.length ≤ k → clrs k t c d i l = l.map (clr · t c d)
  | [], i, _ => rfl
  | r :: l, i, h => by
    simp only [List.length_cons] at h
    simp only [clrs, List.map_cons]
    rw [if_neg (by omega), clrs_lt (by omega)]
theorem clrs_gt {k : Nat} {t : List Int} {c : Nat} {d : Int} : ∀ {l : Rows} {i : Nat}, k < i → clrs k t c d i l = l.map (clr · t c d)
  | [], i, _ => rfl
  | r :: l, i, h => by
    simp only [clrs, List.map_cons]
    rw [if_neg (by omega), clrs_gt (by omega)]
/-- what the program keeps: rows, leads, divisor -/
structure PS where
  left : Rows
  lds : List Nat
  d : Int
def stepS (s : PS) (c : Nat) : PS := match spots s.left c s.lds.length (s.left.length - s.lds.length) with
  | [] => s
  | i :: _ =>
    let l1 := swp [] s.left s.lds.length i
    let t := row l1 s.lds.length
    ⟨clrs s.lds.length t c s.d 0 l1, s.lds ++ [c], cell t c⟩
/-- the law's own way: the rows, how many are taken, the divisor -/
structure PR where
  left : Rows
  k : Nat
  d : Int
def stepR (s : PR) (c : Nat) : PR := match spots s.left c s.k (s.left.length - s.k) with
  | [] => s
  | i :: _ =>
    let l1 := swp [] s.left s.k i
    let t := row l1 s.k
    ⟨l1.take (s.k + 1) ++ (l1.drop (s.k + 1)).map (clr · t c s.d), s.k + 1, cell t c⟩
def runS (rows : Rows) : Nat → PS
  | 0 => ⟨rows, [], 1⟩
  | j + 1 => stepS (runS rows j) j
def runR (rows : Rows) : Nat → PR
  | 0 => ⟨rows, 0, 1⟩
  | j + 1 => stepR (runR rows j) j
/-- the lower rows are such minors -/
structure Lows (n : Nat) (L : Rows) (T L0 : List Row) (cs : List Nat) : Prop where
  eq : L.map vec = L0.map (low T cs)
  len : ∀ r ∈ L, r.length = n
theorem vec_at {L : Rows} {L0 : List Row} {f : Row → Row} (h : L.map vec = L0.map f) {i : Nat} (hi : i < L.length) (d : Row) : vec (row L i) = f (L0.getD i d) := by
  have hl : L.length = L0.length := by simpa using congrArg List.length h
  have e : (L.map vec).getD i d = (L0.map f).getD i d := congrArg (fun l => l.getD i d) h
  rw [getD_at (by simpa using hi), getD_at (by simpa using (by omega : i < L0.length)), List.getElem_map, List.getElem_map] at e
  unfold row
  rw [getD_at hi, getD_at (by omega)]
  exact e
/-- one row is cleared -/
theorem low_clr {n : Nat} {T L0 : List Row} {cs : List Nat} {t0 v : Row} {c : Nat} {r t : List Int} (hs : Spent T cs) (nz : E T cs ≠ 0) (hr : r.length = n) (ht : t.length = n) (e1 : vec r = low T cs v) (e2 : vec t = low T cs t0) :
    vec (clr r t c (E T cs)) = low (t0 :: T) (c :: cs) v := by
  funext x
  show cell _ x = E (v :: t0 :: T) (x :: c :: cs)
  rw [clr_cell (by rw [hr, ht])]
  refine fdiv_of nz ?_
  have q := low_step hs t0 v c x
  have a1 : ∀ y, cell r y = E (v :: T) (y :: cs) := fun y => congrFun e1 y
  have a2 : ∀ y, cell t y = E (t0 :: T) (y :: cs) := fun y => congrFun e2 y
  rw [a1, a1, a2, a2]
  exact q
theorem lows_step {n : Nat} {R T L0 : List Row} {cs : List Nat} {j i : Nat} {L : Rows} (s : Stage R T L0 cs j) (h : Lows n L T L0 cs) (hi : i < L.length) (hc : cell (row L i) j ≠ 0) :
    ∃ t L1 t0 L10, swp [] L 0 i = t :: L1 ∧ t = row L i ∧ t.length = n ∧ vec t = low T cs t0 ∧ Stage R (t0 :: T) L10 (j :: cs) (j + 1) ∧ Lows n (L1.map (clr · t j (E T cs))) (t0 :: T) L10 (j :: cs) ∧ cell t j = E (t0 :: T) (j :: cs) ∧ L1.length + 1 = L.length ∧ ∀ r ∈ L1, r ∈ L := by
  have hl : L.length = L0.length := by simpa using congrArg List.length h.eq
  obtain ⟨L1, e1⟩ := swp_ne (d := ([] : List Int)) hi
  obtain ⟨L10, e2⟩ := swp_ne (d := (fun _ => 0 : Row)) (L := L0) (i := i) (by omega)
  have hp : L0.Perm (L0.getD i (fun _ => 0) :: L10) := by
    rw [← e2]
    exact (swp_perm (by omega) (by omega)).symm
  have hpL : (row L i :: L1).Perm L := by
    rw [show row L i :: L1 = swp [] L 0 i from e1.symm]
    exact swp_perm (by omega) hi
  have em : (swp [] L 0 i).map vec = (swp (fun _ => 0) L0 0 i).map (low T cs) := by
    rw [swp_map (e := (fun _ => 0 : Row)) vec (by omega) hi, swp_map (e := (fun _ => 0 : Row)) (low T cs) (by omega) (by omega), h.eq]
  rw [e1, e2, List.map_cons, List.map_cons] at em
  have e3 := (List.cons.inj em).1
  have e4 := (List.cons.inj em).2
  have ht : (row L i).length = n := h.len _ (hpL.mem_iff.mp (List.mem_cons_self ..))
  have hcell : cell (row L i) j = E (L0.getD i (fun _ => 0) :: T) (j :: cs) := congrFun e3 j
  refine ⟨row L i, L1, L0.getD i (fun _ => 0), L10, e1, rfl, ht, e3, s.take hp (by rw [← hcell]; exact hc), ⟨?_, ?_⟩, hcell, by simpa using hpL.length_eq, fun r hr => hpL.mem_iff.mp (List.mem_cons_of_mem _ hr)⟩
  · rw [List.map_map]
    have go : ∀ (A : Rows) (B : List Row), A.map vec = B.map (low T cs) → (∀ r ∈ A, r.length = n) → A.map (vec ∘ fun x => clr x (row L i) j (E T cs)) = B.map (low (L0.getD i (fun _ => 0) :: T) (j :: cs)) := by
      intro A
      induction A with
      | nil =>
        intro B hB _
        cases B with
        | nil => rfl
        | cons b B => cases hB
      | cons a A ih =>
        intro B hB hA
        cases B with
        | nil => cases hB
        | cons b B =>
          rw [List.map_cons, List.map_cons] at hB
          rw [List.map_cons, List.map_cons, ih B (List.cons.inj hB).2 fun r hr => hA r (List.mem_cons_of_mem _ hr)]
          congr 1
          exact low_clr (L0 := L0) s.spent s.nz (hA a (List.mem_cons_self ..)) ht (List.cons.inj hB).1 e3
    exact go L1 L10 e4 fun r hr => h.len r (hpL.mem_iff.mp (List.mem_cons_of_mem _ hr))
  · intro r hr
    obtain ⟨a, ha, rfl⟩ := List.mem_map.mp hr
    exact clr_length (h.len a (hpL.mem_iff.mp (List.mem_cons_of_mem _ ha))) ht
theorem lows_skip {n : Nat} {R T L0 : List Row} {cs : List Nat} {j : Nat} {L : Rows} (s : Stage R T L0 cs j) (h : Lows n L T L0 cs) (h0 : ∀ i, i < L.length → cell (row L i) j = 0) : Stage R T L0 cs (j + 1) := by
  refine s.skip fun v hv => ?_
  have hl : L.length = L0.length := by simpa using congrArg List.length h.eq
  obtain ⟨i, hi, e⟩ := List.getElem_of_mem hv
  have q := vec_at h.eq (i := i) (by omega) (fun _ => 0)
  rw [getD_at hi, e] at q
  have := h0 i (by omega)
  rw [← this]
  exact (congrFun q j).symm
end BA
end

section
set_option linter.all false
/-! BA4: all of an elimination. Own work. -/
namespace BA
theorem ups_length (T : List Row) : ∀ (cs p : List Nat), (ups T p cs).length = cs.length
  | [], _ => rfl
  | c :: cs, p => by simp [ups, ups_length T cs]
theorem ups_clr {n : Nat} {T : List Row} {t0 : Row} {j : Nat} {t : List Int} {cs : List Nat} (hs : Spent T cs) (nz : E T cs ≠ 0) (ht : t.length = n) (e2 : vec t = low T cs t0) : ∀ (q p : List Nat) (A : Rows), p ++ q = cs → A.map vec = ups T p q → (∀ r ∈ A, r.length = n) → (A.map (clr · t j (E T cs))).map vec = ups (t0 :: T) (j :: p) q
  | [], p, A, e, h, hl => by
    cases A with
    | nil => rfl
    | cons a A => cases h
  | a :: q, p, A, e, h, hl => by
    cases A with
    | nil => cases h
    | cons r A =>
      simp only [ups, List.map_cons] at h ⊢
      have h1 := (List.cons.inj h).1
      have ih := ups_clr (j := j) hs nz ht e2 q (p ++ [a]) A (by rw [← e]; simp) (List.cons.inj h).2 fun r hr => hl r (List.mem_cons_of_mem _ hr)
      rw [ih]
      refine congr (congrArg List.cons ?_) (by simp)
      funext x
      show cell _ x = _
      rw [clr_cell (by rw [hl r (List.mem_cons_self ..), ht])]
      refine fdiv_of nz ?_
      subst e
      have q1 := up_step hs t0 j x
      have a1 : ∀ y, cell r y = E T (p ++ y :: q) := fun y => congrFun h1 y
      have a2 : ∀ y, cell t y = E (t0 :: T) (y :: (p ++ a :: q)) := fun y => congrFun e2 y
      rw [a1, a1, a2, a2]
      simpa using q1
structure OkS (R : List Row) (n j : Nat) (s : PS) (T L0 : List Row) (cs : List Nat) (U L : Rows) : Prop where
  st : Stage R T L0 cs j
  left : s.left = U ++ L
  ul : U.length = s.lds.length
  lds : s.lds = leads R j
  d : s.d = E T cs
  up : U.map vec = (ups T [] cs).reverse
  ulen : ∀ r ∈ U, r.length = n
  lows : Lows n L T L0 cs
theorem row_app (U L : Rows) (i : Nat) : row (U ++ L) (U.length + i) = row L i := getD_app U L i
theorem okS_step {R : List Row} {n j : Nat} {s : PS} {T L0 : List Row} {cs : List Nat} {U L : Rows} (h : OkS R n j s T L0 cs U L) : ∃ T' L0' cs' U' L', OkS R n (j + 1) (stepS s j) T' L0' cs' U' L' := by
  have hm : s.left.length - s.lds.length = L.length := by rw [h.left, ← h.ul]; simp
  unfold stepS
  rw [hm]
  split
  · rename_i e
    have st := lows_skip h.st h.lows fun i hi => by
      have q := spots_nil e i hi
      rw [h.left, ← h.ul, row_app] at q
      exact q
    refine ⟨T, L0, cs, U, L, st, h.left, h.ul, ?_, h.d, h.up, h.ulen, h.lows⟩
    have e1 := st.cs
    rw [h.st.cs] at e1
    rw [h.lds]
    simpa using e1
  · rename_i i0 r0 e
    obtain ⟨i, hi0, hi, hc⟩ := spots_cons e
    rw [hi0, h.left, ← h.ul, row_app] at hc
    obtain ⟨t, L1, t0, L10, w1, w2, w3, w4, w5, w6, w7, w8, w9⟩ := lows_step h.st h.lows hi hc
    have e1 : swp [] s.left s.lds.length i0 = U ++ t :: L1 := by rw [hi0, h.left, ← h.ul, swp_app, w1]
    have e2 : row (U ++ t :: L1) s.lds.length = t := by
      rw [← h.ul]
      have := row_app U (t :: L1) 0
      simpa [row] using this
    have e3 : clrs s.lds.length t j s.d 0 (U ++ t :: L1) = U.map (clr · t j s.d) ++ t :: L1.map (clr · t j s.d) := by
      have hu := h.ul
      rw [clrs_app, clrs_lt (by omega)]
      simp only [clrs]
      rw [if_pos (by omega), clrs_gt (by omega)]
    refine ⟨t0 :: T, L10, j :: cs, U.map (clr · t j s.d) ++ [t], L1.map (clr · t j s.d), w5, ?_, by simp [h.ul], ?_, ?_, ?_, ?_, by rw [h.d]; exact w6⟩
    · show clrs s.lds.length (row (swp [] s.left s.lds.length i0) s.lds.length) j s.d 0 (swp [] s.left s.lds.length i0) = _
      rw [e1, e2, e3]
      simp
    · show s.lds ++ [j] = _
      have q := congrArg List.reverse w5.cs
      rw [List.reverse_reverse] at q
      rw [← q, h.lds, List.reverse_cons, h.st.cs, List.reverse_reverse]
    · show cell (row (swp [] s.left s.lds.length i0) s.lds.length) j = _
      rw [e1, e2]
      exact w7
    · rw [List.map_append, h.d]
      have q := ups_clr (j := j) h.st.spent h.st.nz w3 w4 cs [] U.reverse rfl (by rw [List.map_reverse, h.up, List.reverse_reverse]) fun r hr => h.ulen r (by simpa using hr)
      have q2 := congrArg List.reverse q
      rw [List.map_reverse, List.map_reverse, List.reverse_reverse] at q2
      rw [q2]
      show _ = ((fun x => E (t0 :: T) (x :: cs)) :: ups (t0 :: T) [j] cs).reverse
      rw [List.reverse_cons]
      congr 1
      simp [w4]
      rfl
    · intro r hr
      rcases List.mem_append.mp hr with hr | hr
      · obtain ⟨a, ha, rfl⟩ := List.mem_map.mp hr
        exact clr_length (h.ulen a ha) w3
      · rw [List.mem_singleton.mp hr]
        exact w3
theorem okS_run {rows : Rows} {n : Nat} (hl : ∀ r ∈ rows, r.length = n) : ∀ j, ∃ T L0 cs U L, OkS (rows.map vec) n j (runS rows j) T L0 cs U L
  | 0 => ⟨[], rows.map vec, [], [], rows, Stage.start _, rfl, rfl, rfl, rfl, rfl, fun r hr => (by cases hr), ⟨by
    have e : low [] [] = id := by
      funext v x
      simp [low, E, ex]
    rw [e, List.map_id], hl⟩⟩
  | j + 1 => by
    obtain ⟨T, L0, cs, U, L, h⟩ := okS_run hl j
    exact okS_step h
structure OkR (R : List Row) (n j : Nat) (s : PR) (T L0 : List Row) (cs : List Nat) (U L : Rows) : Prop where
  st : Stage R T L0 cs j
  left : s.left = U ++ L
  ul : U.length = s.k
  k : s.k = cs.length
  d : s.d = E T cs
  ulen : ∀ r ∈ U, r.length = n
  lows : Lows n L T L0 cs
  small : ∀ r ∈ U, ∃ t0 T1 c1, vec r = low T1 c1 t0 ∧ (∀ m ∈ t0 :: T1, m ∈ R) ∧ T1.length ≤ T.length
theorem okR_step {R : List Row} {n j : Nat} {s : PR} {T L0 : List Row} {cs : List Nat} {U L : Rows} (h : OkR R n j s T L0 cs U L) : ∃ T' L0' cs' U' L', OkR R n (j + 1) (stepR s j) T' L0' cs' U' L' := by
  have hm : s.left.length - s.k = L.length := by rw [h.left, ← h.ul]; simp
  unfold stepR
  rw [hm]
  split
  · rename_i e
    have st := lows_skip h.st h.lows fun i hi => by
      have q := spots_nil e i hi
      rw [h.left, ← h.ul, row_app] at q
      exact q
    exact ⟨T, L0, cs, U, L, st, h.left, h.ul, h.k, h.d, h.ulen, h.lows, h.small⟩
  · rename_i i0 r0 e
    obtain ⟨i, hi0, hi, hc⟩ := spots_cons e
    rw [hi0, h.left, ← h.ul, row_app] at hc
    obtain ⟨t, L1, t0, L10, w1, w2, w3, w4, w5, w6, w7, w8, w9⟩ := lows_step h.st h.lows hi hc
    have e1 : swp [] s.left s.k i0 = U ++ t :: L1 := by rw [hi0, h.left, ← h.ul, swp_app, w1]
    have e2 : row (U ++ t :: L1) s.k = t := by
      rw [← h.ul]
      have := row_app U (t :: L1) 0
      simpa [row] using this
    refine ⟨t0 :: T, L10, j :: cs, U ++ [t], L1.map (clr · t j s.d), w5, ?_, by simp [h.ul], by simp [h.k], ?_, ?_, by rw [h.d]; exact w6, ?_⟩
    · show (swp [] s.left s.k i0).take (s.k + 1) ++ ((swp [] s.left s.k i0).drop (s.k + 1)).map (clr · (row (swp [] s.left s.k i0) s.k) j s.d) = _
      rw [e1, e2, ← h.ul]
      rw [List.take_append, List.drop_append, List.take_of_length_le (by omega), List.drop_eq_nil_of_le (by omega)]
      simp
    · show cell (row (swp [] s.left s.k i0) s.k) j = _
      rw [e1, e2]
      exact w7
    · intro r hr
      rcases List.mem_append.mp hr with hr | hr
      · exact h.ulen r hr
      · rw [List.mem_singleton.mp hr]
        exact w3
    · intro r hr
      rcases List.mem_append.mp hr with hr | hr
      · obtain ⟨a, b, c, g1, g2, g3⟩ := h.small r hr
        exact ⟨a, b, c, g1, g2, by simp; omega⟩
      · rw [List.mem_singleton.mp hr]
        refine ⟨t0, T, cs, w4, fun m hm => w5.perm.mem_iff.mpr (List.mem_append.mpr (.inl hm)), by simp⟩
theorem okR_run {rows : Rows} {n : Nat} (hl : ∀ r ∈ rows, r.length = n) : ∀ j, ∃ T L0 cs U L, OkR (rows.map vec) n j (runR rows j) T L0 cs U L
  | 0 => ⟨[], rows.map vec, [], [], rows, Stage.start _, rfl, rfl, rfl, rfl, fun r hr => (by cases hr), ⟨by
    have e : low [] [] = id := by
      funext v x
      simp [low, E, ex]
    rw [e, List.map_id], hl⟩, fun r hr => (by cases hr)⟩
  | j + 1 => by
    obtain ⟨T, L0, cs, U, L, h⟩ := okR_run hl j
    exact okR_step h
theorem runS_rank {rows : Rows} {n : Nat} (hl : ∀ r ∈ rows, r.length = n) : (runS rows n).lds = leads (rows.map vec) n := by
  obtain ⟨T, L0, cs, U, L, h⟩ := okS_run hl n
  exact h.lds
theorem runR_rank {rows : Rows} {n : Nat} (hl : ∀ r ∈ rows, r.length = n) : (runR rows n).k = (leads (rows.map vec) n).length := by
  obtain ⟨T, L0, cs, U, L, h⟩ := okR_run hl n
  rw [h.k, h.st.cs, List.length_reverse]
/-- rows with a column each of their own are all taken -/
theorem leads_own {R : List Row} {n : Nat} {f : Nat → Nat} (hn : R.Nodup) (h1 : ∀ r ∈ R, ∃ x, x < n ∧ r x ≠ 0 ∧ ∀ m ∈ R, m ≠ r → m x = 0) {T L0 : List Row} {cs : List Nat} (s : Stage R T L0 cs n) : (leads R n).length = R.length := by
  have hL : L0 = [] := by
    cases L0 with
    | nil => rfl
    | cons v L0 =>
      exfalso
      have hv : v ∈ R := s.perm.mem_iff.mpr (by simp)
      obtain ⟨x, hx, h2, h3⟩ := h1 v hv
      have q := s.van v (List.mem_cons_self ..) x hx
      have hnd : (T ++ v :: L0).Nodup := s.perm.nodup_iff.mp hn
      have hvT : v ∉ T := fun hm => by
        have := (List.nodup_append.mp hnd).2.2 v hm v (List.mem_cons_self ..)
        exact this rfl
      have hz : ∀ m ∈ T, m x = 0 := fun m hm => h3 m (s.perm.mem_iff.mpr (List.mem_append.mpr (.inl hm))) fun e => hvT (e ▸ hm)
      rw [E_cons, sumS_zero] at q
      · rcases Int.mul_eq_zero.mp (by omega : v x * E T cs = 0) with z | z
        · exact h2 z
        · exact s.nz z
      · intro a c b e
        rw [E_col0 hz, Int.mul_zero]
  have e1 := s.perm.length_eq
  have e2 := congrArg List.length s.cs
  have e3 := s.len
  subst hL
  simp at e1 e2
  omega
/-! bounds -/
theorem ex_bound {g : List Nat → Int} {r : Row} {B G : Nat} (hr : ∀ x, (r x).natAbs ≤ B) : ∀ (cs pre : List Nat) {m : Nat}, pre.length + cs.length ≤ m + 1 → (∀ ys : List Nat, ys.length ≤ m → (g ys).natAbs ≤ G) → (ex g r pre cs).natAbs ≤ cs.length * (B * G)
  | [], pre, m, _, _ => by simp [ex]
  | c :: cs, pre, m, hm, hg => by
    have h1 := ex_bound hr cs (pre ++ [c]) (m := m) (by simp at hm ⊢; omega) hg
    have h2 := hg (pre ++ cs) (by simp at hm ⊢; omega)
    have h3 : (r c * g (pre ++ cs)).natAbs ≤ B * G := by
      rw [Int.natAbs_mul]
      exact Nat.mul_le_mul (hr c) h2
    simp only [ex, List.length_cons]
    have h4 : (r c * g (pre ++ cs) - ex g r (pre ++ [c]) cs).natAbs ≤ (r c * g (pre ++ cs)).natAbs + (ex g r (pre ++ [c]) cs).natAbs := by omega
    have h5 : (cs.length + 1) * (B * G) = B * G + cs.length * (B * G) := by grind
    omega
theorem E_bound {B m : Nat} : ∀ {T : List Row}, (∀ r ∈ T, ∀ x, (r x).natAbs ≤ B) → ∀ {cs : List Nat}, cs.length ≤ m → (E T cs).natAbs ≤ ((m + 1) * (B + 1)) ^ T.length
  | [], _, cs, _ => by cases cs <;> simp [E]
  | r :: T, h, cs, hc => by
    have ih : ∀ {cs : List Nat}, cs.length ≤ m → (E T cs).natAbs ≤ ((m + 1) * (B + 1)) ^ T.length := fun {cs} hc => E_bound (fun m hm => h m (List.mem_cons_of_mem _ hm)) hc
    have q := ex_bound (g := E T) (G := ((m + 1) * (B + 1)) ^ T.length) (h r (List.mem_cons_self ..)) cs [] (m := m) (by simp; omega) fun ys hy => ih hy
    show (ex (E T) r [] cs).natAbs ≤ _
    refine Nat.le_trans q ?_
    rw [List.length_cons, Nat.pow_succ, Nat.mul_comm (_ ^ _)]
    rw [← Nat.mul_assoc]
    refine Nat.mul_le_mul_right _ ?_
    exact Nat.mul_le_mul (by omega) (by omega)
end BA
end

section
set_option linter.all false
/-! BA5: divisors, products, the rows that all products are 0 with. Own work. -/
namespace BA
/-! greatest divisors -/
def gcdF (g : Nat) (r : List Int) : Nat := r.foldl (fun g x => Nat.gcd g x.natAbs) g
def gcdL (r : List Int) : Nat := gcdF 0 r
theorem gcdF_dvd : ∀ (r : List Int) (g : Nat), gcdF g r ∣ g ∧ ∀ p ∈ r, gcdF g r ∣ p.natAbs
  | [], g => ⟨Nat.dvd_refl _, fun p hp => by cases hp⟩
  | x :: r, g => by
    obtain ⟨h1, h2⟩ := gcdF_dvd r (Nat.gcd g x.natAbs)
    show gcdF (Nat.gcd g x.natAbs) r ∣ g ∧ ∀ p ∈ x :: r, gcdF (Nat.gcd g x.natAbs) r ∣ p.natAbs
    refine ⟨Nat.dvd_trans h1 (Nat.gcd_dvd_left _ _), fun p hp => ?_⟩
    rcases List.mem_cons.mp hp with e | hp
    · subst e
      exact Nat.dvd_trans h1 (Nat.gcd_dvd_right _ _)
    · exact h2 p hp
theorem gcdF_mul (k : Nat) : ∀ (r : List Int) (g : Nat), gcdF (g * k) (r.map (· * (k : Int))) = gcdF g r * k
  | [], g => rfl
  | x :: r, g => by
    show gcdF (Nat.gcd (g * k) (x * (k : Int)).natAbs) (r.map (· * (k : Int))) = gcdF (Nat.gcd g x.natAbs) r * k
    rw [Int.natAbs_mul, Int.natAbs_natCast, Nat.gcd_mul_right, gcdF_mul k r]
def shr (r : List Int) : List Int := if gcdL r = 0 then r else r.map fun p => p.fdiv (gcdL r)
theorem shr_back {r : List Int} (h : gcdL r ≠ 0) : (shr r).map (· * (gcdL r : Int)) = r := by
  unfold shr
  rw [if_neg h, List.map_map]
  have e : ∀ p ∈ r, ((· * (gcdL r : Int)) ∘ fun p => p.fdiv (gcdL r)) p = p := fun p hp => by
    have := (gcdF_dvd r 0).2 p hp
    have d : (gcdL r : Int) ∣ p := Int.natAbs_dvd_natAbs.mp (by rw [Int.natAbs_natCast]; exact this)
    exact Int.fdiv_mul_cancel d
  calc r.map ((· * (gcdL r : Int)) ∘ fun p => p.fdiv (gcdL r)) = r.map id := List.map_congr_left e
    _ = r := List.map_id _
theorem gcd_shr (r : List Int) : gcdL (shr r) = if 0 < gcdL r then 1 else 0 := by
  by_cases h : gcdL r = 0
  · unfold shr
    rw [if_pos h, h]
    rfl
  · rw [if_pos (by omega)]
    have e := congrArg gcdL (shr_back h)
    have q := gcdF_mul (gcdL r) (shr r) 0
    rw [Nat.zero_mul] at q
    have e2 : gcdL (shr r) * gcdL r = gcdL r := (show gcdF 0 (List.map (· * (gcdL r : Int)) (shr r)) = gcdF 0 (shr r) * gcdL r from q).symm.trans e
    exact Nat.eq_of_mul_eq_mul_right (Nat.pos_of_ne_zero h) (by rw [e2, Nat.one_mul])
theorem shr_length (r : List Int) : (shr r).length = r.length := by
  unfold shr
  split <;> simp
theorem max_back (r : List Int) : (shr r).map (· * (if (gcdL r : Int) > 1 then (gcdL r : Int) else 1)) = r := by
  by_cases h : gcdL r = 0
  · unfold shr
    rw [h]
    simp
  · have e : (if (gcdL r : Int) > 1 then (gcdL r : Int) else 1) = gcdL r := by
      split <;> omega
    rw [e]
    exact shr_back h
theorem shr_small {r : List Int} {p : Int} (h : p ∈ shr r) : ∃ q ∈ r, p.natAbs ≤ q.natAbs := by
  by_cases g : gcdL r = 0
  · unfold shr at h
    rw [if_pos g] at h
    exact ⟨p, h, Nat.le_refl _⟩
  · refine ⟨p * gcdL r, ?_, ?_⟩
    · have := List.mem_map_of_mem (f := (· * (gcdL r : Int))) h
      rw [shr_back g] at this
      exact this
    · rw [Int.natAbs_mul, Int.natAbs_natCast]
      exact Nat.le_mul_of_pos_right _ (by omega)
/-! products -/
def dot (a b : List Int) : Int := (List.zipWith (· * ·) a b).sum
theorem dot_mul (k : Int) : ∀ (a b : List Int), dot a (b.map (· * k)) = dot a b * k
  | [], b => by simp [dot]
  | x :: a, [] => by simp [dot]
  | x :: a, y :: b => by
    have := dot_mul k a b
    simp only [dot, List.map_cons, List.zipWith_cons_cons, List.sum_cons] at this ⊢
    rw [this]
    grind
theorem dot_set : ∀ (a b : List Int) (l : Nat) (v : Int), l < b.length → dot a (b.set l v) = dot a b + cell a l * (v - cell b l)
  | [], b, l, v, h => by simp [dot, cell]
  | x :: a, [], l, v, h => by simp at h
  | x :: a, y :: b, 0, v, h => by
    simp only [dot, cell, List.set_cons_zero, List.zipWith_cons_cons, List.sum_cons, List.getD_cons_zero]
    grind
  | x :: a, y :: b, l + 1, v, h => by
    have := dot_set a b l v (by simpa using h)
    simp only [dot, cell, List.set_cons_succ, List.zipWith_cons_cons, List.sum_cons, List.getD_cons_succ] at this ⊢
    rw [this]
    grind
theorem dot_zero : ∀ (a : List Int) (n : Nat), dot a (List.replicate n 0) = 0
  | [], n => by simp [dot]
  | x :: a, 0 => by simp [dot]
  | x :: a, n + 1 => by
    have := dot_zero a n
    simp only [dot, List.replicate_succ, List.zipWith_cons_cons, List.sum_cons] at this ⊢
    rw [this]
    grind
theorem cell_set {b : List Int} {l x : Nat} {v : Int} (h : l < b.length) : cell (b.set l v) x = if x = l then v else cell b x := by
  unfold cell
  rw [List.getD_eq_getElem?_getD, List.getD_eq_getElem?_getD]
  by_cases e : x = l
  · subst e
    rw [if_pos rfl, List.getElem?_set_self h]
    rfl
  · rw [if_neg e, List.getElem?_set_ne (Ne.symm e)]
theorem cell_zero {n x : Nat} : cell (List.replicate n 0) x = 0 := by
  unfold cell
  rw [List.getD_eq_getElem?_getD, List.getElem?_replicate]
  split <;> rfl
/-! a row for a free column -/
def putAll (f : Nat) : List Nat → Rows → List Int → List Int
  | l :: ls, u :: us, tl => putAll f ls us (tl.set l (- cell u f))
  | _, _, tl => tl
theorem putAll_length (f : Nat) : ∀ (ls : List Nat) (us : Rows) (tl : List Int), (putAll f ls us tl).length = tl.length
  | [], us, tl => by simp [putAll]
  | l :: ls, [], tl => by simp [putAll]
  | l :: ls, u :: us, tl => by simp [putAll, putAll_length f ls us]
theorem putAll_out (f : Nat) {x : Nat} : ∀ {ls : List Nat} {us : Rows} {tl : List Int}, x ∉ ls → (∀ l ∈ ls, l < tl.length) → cell (putAll f ls us tl) x = cell tl x
  | [], us, tl, _, _ => by simp [putAll]
  | l :: ls, [], tl, _, _ => by simp [putAll]
  | l :: ls, u :: us, tl, h, hl => by
    simp only [putAll]
    rw [putAll_out f (fun q => h (List.mem_cons_of_mem _ q)) (fun l' hl' => by rw [List.length_set]; exact hl l' (List.mem_cons_of_mem _ hl')), cell_set (hl l (List.mem_cons_self ..)), if_neg (fun e : x = l => h (by rw [e]; exact List.mem_cons_self ..))]
theorem putAll_in (f : Nat) : ∀ {ls : List Nat} {us : Rows} {tl : List Int} {p : Int}, p ∈ putAll f ls us tl → p ∈ tl ∨ ∃ u ∈ us, p = - cell u f
  | [], us, tl, p, h => .inl (by simpa [putAll] using h)
  | l :: ls, [], tl, p, h => .inl (by simpa [putAll] using h)
  | l :: ls, u :: us, tl, p, h => by
    simp only [putAll] at h
    rcases putAll_in f h with h | ⟨u', h1, h2⟩
    · rcases List.mem_or_eq_of_mem_set h with h | h
      · exact .inl h
      · exact .inr ⟨u, List.mem_cons_self .., h⟩
    · exact .inr ⟨u', List.mem_cons_of_mem _ h1, h2⟩
theorem putAll_dot (f : Nat) (r : List Int) : ∀ {ls : List Nat} {us : Rows} {tl : List Int}, ls.Nodup → (∀ l ∈ ls, l < tl.length ∧ cell tl l = 0) → dot r (putAll f ls us tl) = dot r tl - (List.zipWith (fun l u => cell r l * cell u f) ls us).sum
  | [], us, tl, _, _ => by simp [putAll]
  | l :: ls, [], tl, _, _ => by simp [putAll]
  | l :: ls, u :: us, tl, hn, h => by
    obtain ⟨h1, h2⟩ := h l (List.mem_cons_self ..)
    have hn' := List.nodup_cons.mp hn
    have ih := putAll_dot f r (us := us) (tl := tl.set l (- cell u f)) hn'.2 fun l' hl' => by
      obtain ⟨g1, g2⟩ := h l' (List.mem_cons_of_mem _ hl')
      exact ⟨by rw [List.length_set]; exact g1, by rw [cell_set h1, if_neg (fun e : l' = l => hn'.1 (e ▸ hl')), g2]⟩
    simp only [putAll, List.zipWith_cons_cons, List.sum_cons]
    rw [ih, dot_set _ _ _ _ h1, h2]
    grind
def toldF (s : PS) (many f : Nat) : List Int := putAll f s.lds (s.left.take s.lds.length) ((List.replicate many 0).set f s.d)
theorem sum_rev : ∀ l : List Int, l.reverse.sum = l.sum
  | [] => rfl
  | x :: l => by
    rw [List.reverse_cons, List.sum_append, sum_rev l, List.sum_cons, List.sum_cons, List.sum_nil]
    omega
theorem sumS_ups (T : List Row) (r : Row) (x : Nat) : ∀ (cs p : List Nat), sumS (fun p c q => r c * E T (p ++ x :: q)) p cs [] = (List.zipWith (fun c (u : Row) => r c * u x) cs (ups T p cs)).sum
  | [], p => rfl
  | c :: cs, p => by
    simp only [sumS, ups, List.zipWith_cons_cons, List.sum_cons, sumS_ups T r x cs, List.append_nil]
theorem leads_nodup (R : List Row) (n : Nat) : (leads R n).Nodup := List.Nodup.sublist List.filter_sublist List.nodup_range
theorem leads_lt {R : List Row} {n x : Nat} (h : x ∈ leads R n) : x < n := List.mem_range.mp (List.mem_filter.mp h).1
section
variable {rows : Rows} {n : Nat} (hl : ∀ r ∈ rows, r.length = n)
include hl
theorem told_dot {f : Nat} (hf : f < n) (hf2 : f ∉ (runS rows n).lds) : ∀ r ∈ rows, dot r (toldF (runS rows n) n f) = 0 := by
  intro r hr
  obtain ⟨T, L0, cs, U, L, h⟩ := okS_run hl n
  have hU : (runS rows n).left.take (runS rows n).lds.length = U := by rw [h.left, ← h.ul]; simp
  unfold toldF
  rw [hU]
  have hlt : ∀ l ∈ (runS rows n).lds, l < n := fun l hl' => by
    rw [h.lds] at hl'
    exact leads_lt hl'
  rw [putAll_dot f r (by rw [h.lds]; exact leads_nodup _ _) fun l hl' => by
    refine ⟨by simpa using hlt l hl', ?_⟩
    rw [cell_set (by simpa using hf), if_neg (fun e : l = f => hf2 (e ▸ hl')), cell_zero]]
  rw [dot_set _ _ _ _ (by simpa using hf), dot_zero, cell_zero]
  have hz : E (vec r :: T) (f :: cs) = 0 := by
    rcases List.mem_append.mp (h.st.perm.mem_iff.mp (List.mem_map_of_mem (f := vec) hr)) with g | g
    · exact h.st.spent _ g f
    · exact h.st.van _ g f hf
  rw [E_cons, sumS_ups] at hz
  have e1 : List.zipWith (fun l u => cell r l * cell u f) (runS rows n).lds U = (List.zipWith (fun c (u : Row) => vec r c * u f) cs (ups T [] cs)).reverse := by
    rw [List.reverse_zipWith (by rw [ups_length]), ← h.up, h.st.cs, List.reverse_reverse, ← h.lds, List.zipWith_map_right]
  rw [e1, sum_rev, h.d]
  show 0 + cell r f * (E T cs - 0) - _ = 0
  have hz2 : cell r f * E T cs - (List.zipWith (fun c (u : Row) => vec r c * u f) cs (ups T [] cs)).sum = 0 := hz
  rw [Int.sub_zero, Int.zero_add]
  exact hz2
theorem told_own {f : Nat} (hf : f < n) (hf2 : f ∉ (runS rows n).lds) : cell (toldF (runS rows n) n f) f ≠ 0 ∧ ∀ x, x ∉ (runS rows n).lds → x ≠ f → cell (toldF (runS rows n) n f) x = 0 := by
  obtain ⟨T, L0, cs, U, L, h⟩ := okS_run hl n
  have hlt : ∀ l ∈ (runS rows n).lds, l < ((List.replicate n (0 : Int)).set f (runS rows n).d).length := fun l hl' => by
    rw [h.lds] at hl'
    simpa using leads_lt hl'
  unfold toldF
  refine ⟨?_, fun x hx hne => ?_⟩
  · rw [putAll_out f hf2 hlt, cell_set (by simpa using hf), if_pos rfl, h.d]
    exact h.st.nz
  · rw [putAll_out f hx hlt, cell_set (by simpa using hf), if_neg hne, cell_zero]
end
theorem told_length (s : PS) (n f : Nat) : (toldF s n f).length = n := by simp [toldF, putAll_length]
end BA
end

section
set_option linter.all false
/-! BA6: what the law asks of ranks; how great numbers get. Own work. -/
namespace BA
theorem runS_rev {rows : Rows} {n : Nat} (hl : ∀ r ∈ rows, r.length = n) : (runS rows.reverse n).lds = (runS rows n).lds := by
  rw [runS_rank hl, runS_rank (rows := rows.reverse) fun r hr => hl r (List.mem_reverse.mp hr)]
  refine leads_same (fun r => ?_) n
  simp
theorem runR_len {rows : Rows} {n : Nat} (hl : ∀ r ∈ rows, r.length = n) : (runR rows n).k = (runS rows n).lds.length := by rw [runS_rank hl, runR_rank hl]
theorem runS_empty : ∀ j, runS [] j = ⟨[], [], 1⟩
  | 0 => rfl
  | j + 1 => by rw [runS, runS_empty j]; rfl
theorem runR_empty : ∀ j, runR [] j = ⟨[], 0, 1⟩
  | 0 => rfl
  | j + 1 => by rw [runR, runR_empty j]; rfl
def frees (n : Nat) (lds : List Nat) : List Nat := (List.range n).filter fun x => !lds.contains x
theorem frees_mem {n : Nat} {lds : List Nat} {f : Nat} : f ∈ frees n lds ↔ f < n ∧ f ∉ lds := by
  unfold frees
  rw [List.mem_filter, List.mem_range]
  simp
open Classical in
theorem frees_count (R : List Row) (n : Nat) : (frees n (leads R n)).length + (leads R n).length = n := by
  have e : frees n (leads R n) = (List.range n).filter fun x => !(decide (Lead R x)) := by
    unfold frees
    refine List.filter_congr fun x hx => ?_
    have : (leads R n).contains x = decide (Lead R x) := by
      rw [Bool.eq_iff_iff]
      simp only [List.contains_iff_mem, decide_eq_true_eq]
      unfold leads
      rw [List.mem_filter]
      simp only [decide_eq_true_eq]
      exact ⟨fun h => h.2, fun h => ⟨hx, h⟩⟩
    rw [this]
  rw [e]
  unfold leads
  have q := List.length_eq_countP_add_countP (fun x => decide (Lead R x)) (l := List.range n)
  rw [List.length_range, List.countP_eq_length_filter, List.countP_eq_length_filter] at q
  simp only [Bool.not_eq_true, Bool.decide_eq_false] at q
  omega
def nts (rows : Rows) (n : Nat) : Rows := (frees n (runS rows n).lds).map fun f => shr (toldF (runS rows n) n f)
section
variable {rows : Rows} {n : Nat} (hl : ∀ r ∈ rows, r.length = n)
include hl
theorem nts_len : ∀ r ∈ nts rows n, r.length = n := fun r hr => by
  obtain ⟨f, hf, rfl⟩ := List.mem_map.mp hr
  rw [shr_length, told_length]
theorem nts_count : (nts rows n).length + (runS rows n).lds.length = n := by
  unfold nts
  rw [List.length_map, runS_rank hl]
  exact frees_count _ _
theorem gcd_told {f : Nat} (hf : f < n) (hf2 : f ∉ (runS rows n).lds) : gcdL (toldF (runS rows n) n f) ≠ 0 := fun h => by
  have h1 := (told_own hl hf hf2).1
  have hx : f < (toldF (runS rows n) n f).length := by rw [told_length]; exact hf
  have e : cell (toldF (runS rows n) n f) f = (toldF (runS rows n) n f)[f] := getD_at hx
  have := (gcdF_dvd (toldF (runS rows n) n f) 0).2 _ (List.getElem_mem hx)
  rw [show gcdF 0 (toldF (runS rows n) n f) = 0 from h, Nat.zero_dvd] at this
  rw [e] at h1
  omega
theorem nts_dot {r : List Int} (hr : r ∈ rows) : ∀ t ∈ nts rows n, dot t r = 0 := fun t ht => by
  obtain ⟨f, hf, rfl⟩ := List.mem_map.mp ht
  obtain ⟨h1, h2⟩ := frees_mem.mp hf
  have q := told_dot hl h1 h2 r hr
  rw [← shr_back (gcd_told hl h1 h2), dot_mul] at q
  have comm : ∀ a b : List Int, dot a b = dot b a := fun a b => by
    unfold dot
    congr 1
    rw [List.zipWith_comm]
    congr 1
    funext x y
    exact Int.mul_comm _ _
  rw [comm]
  rcases Int.mul_eq_zero.mp q with z | z
  · exact z
  · exact absurd z (by have := gcd_told hl h1 h2; omega)
theorem cell_map {l : List Int} {k : Int} {x : Nat} : cell (l.map (· * k)) x = cell l x * k := by
  unfold cell
  rw [List.getD_eq_getElem?_getD, List.getD_eq_getElem?_getD, List.getElem?_map]
  cases l[x]? <;> simp
theorem nts_own {f : Nat} (hf : f ∈ frees n (runS rows n).lds) : cell (shr (toldF (runS rows n) n f)) f ≠ 0 ∧ ∀ x, x ∈ frees n (runS rows n).lds → x ≠ f → cell (shr (toldF (runS rows n) n f)) x = 0 := by
  obtain ⟨h1, h2⟩ := frees_mem.mp hf
  obtain ⟨q1, q2⟩ := told_own hl h1 h2
  have g := gcd_told hl h1 h2
  have e : ∀ x, cell (shr (toldF (runS rows n) n f)) x * (gcdL (toldF (runS rows n) n f) : Int) = cell (toldF (runS rows n) n f) x := fun x => by
    rw [← cell_map hl, shr_back g]
  refine ⟨fun z => q1 ?_, fun x hx hne => ?_⟩
  · rw [← e, z, Int.zero_mul]
  · have := e x
    rw [q2 x (frees_mem.mp hx).2 hne] at this
    rcases Int.mul_eq_zero.mp this with z | z
    · exact z
    · exact absurd z (by omega)
theorem nts_rank : (runR (nts rows n) n).k = (nts rows n).length := by
  have hnl := nts_len hl
  rw [runR_len hnl, runS_rank hnl]
  obtain ⟨T, L0, cs, U, L, h⟩ := okS_run hnl n
  have hnd : ((nts rows n).map vec).Nodup := by
    unfold nts
    rw [List.map_map]
    have fn : (frees n (runS rows n).lds).Nodup := List.Nodup.sublist List.filter_sublist List.nodup_range
    refine List.Pairwise.map _ (R := fun a b => a ∈ frees n (runS rows n).lds ∧ b ∈ frees n (runS rows n).lds ∧ a ≠ b) (fun a b ⟨ha, hb, hne⟩ e => ?_) ?_
    · have e2 := congrFun e a
      have a1 := (nts_own hl ha).1
      have a2 := (nts_own hl hb).2 a ha hne
      exact a1 (e2.trans a2)
    · exact List.Pairwise.imp_of_mem (fun ha hb h => ⟨ha, hb, h⟩) fn
  rw [leads_own (f := id) hnd (fun r hr => ?_) h.st, List.length_map]
  unfold nts at hr
  rw [List.map_map] at hr
  obtain ⟨f, hf, rfl⟩ := List.mem_map.mp hr
  refine ⟨f, (frees_mem.mp hf).1, (nts_own hl hf).1, fun m hm hne => ?_⟩
  unfold nts at hm
  rw [List.map_map] at hm
  obtain ⟨f2, hf2, rfl⟩ := List.mem_map.mp hm
  refine (nts_own hl hf2).2 f hf fun e => hne ?_
  rw [e]
end
/-! bounds -/
def Fine (b : Nat) (left : Rows) (d : Int) : Prop := (∀ r ∈ left, ∀ x, (cell r x).natAbs < 2 ^ b) ∧ d ≠ 0 ∧ d.natAbs < 2 ^ b
theorem ups_mem {T : List Row} : ∀ {cs p : List Nat} {u : Row}, u ∈ ups T p cs → ∃ p' q, u = (fun x => E T (p' ++ x :: q)) ∧ p'.length + q.length + 1 = p.length + cs.length
  | [], p, u, h => by cases h
  | c :: cs, p, u, h => by
    simp only [ups] at h
    rcases List.mem_cons.mp h with e | h
    · exact ⟨p, cs, e, by simp; omega⟩
    · obtain ⟨p', q, e, hl⟩ := ups_mem h
      exact ⟨p', q, e, by simp at hl ⊢; omega⟩
theorem pow_fine {B b k : Nat} (hB : 9 * (B + 1) ≤ 2 ^ b) (hk : k ≤ 7) : ((8 + 1) * (B + 1)) ^ k < 2 ^ (7 * b + 1) := by
  have h0 : ((8 + 1) * (B + 1)) ^ k ≤ (2 ^ b) ^ k := Nat.pow_le_pow_left hB k
  rw [← Nat.pow_mul] at h0
  refine Nat.lt_of_le_of_lt h0 (Nat.pow_lt_pow_right (by omega) ?_)
  have : b * k ≤ b * 7 := Nat.mul_le_mul_left b hk
  omega
theorem fineS {rows : Rows} {n B b : Nat} (hl : ∀ r ∈ rows, r.length = n) (hm : rows.length ≤ 7) (hB : 9 * (B + 1) ≤ 2 ^ b) (hs : ∀ r ∈ rows, ∀ x, (cell r x).natAbs ≤ B) (j : Nat) : Fine (7 * b + 1) (runS rows j).left (runS rows j).d := by
  obtain ⟨T, L0, cs, U, L, h⟩ := okS_run hl j
  have hp := h.st.perm
  have hlen := hp.length_eq
  simp at hlen
  have hin : ∀ m ∈ T ++ L0, ∀ x, (m x).natAbs ≤ B := fun m hm x => by
    obtain ⟨r, hr, rfl⟩ := List.mem_map.mp (hp.mem_iff.mpr hm)
    exact hs r hr x
  have hT := h.st.len
  refine ⟨fun r hr x => ?_, by rw [h.d]; exact h.st.nz, ?_⟩
  · rw [h.left] at hr
    rcases List.mem_append.mp hr with hr | hr
    · have : vec r ∈ (ups T [] cs).reverse := by rw [← h.up]; exact List.mem_map_of_mem hr
      obtain ⟨p, q, e, hpq⟩ := ups_mem (List.mem_reverse.mp this)
      have e2 : cell r x = E T (p ++ x :: q) := congrFun e x
      rw [e2]
      refine Nat.lt_of_le_of_lt (E_bound (m := 8) (fun m hm => hin m (List.mem_append.mpr (.inl hm))) ?_) (pow_fine hB (by omega))
      simp at hpq ⊢
      omega
    · have : vec r ∈ L0.map (low T cs) := by rw [← h.lows.eq]; exact List.mem_map_of_mem hr
      obtain ⟨v, hv, e⟩ := List.mem_map.mp this
      have e2 : cell r x = E (v :: T) (x :: cs) := (congrFun e x).symm
      have hL : 0 < L0.length := List.length_pos_of_mem hv
      rw [e2]
      refine Nat.lt_of_le_of_lt (E_bound (m := 8) (T := v :: T) (fun m hm => ?_) (by simp; omega)) (pow_fine hB (by simp; omega))
      rcases List.mem_cons.mp hm with e | hm
      · subst e; exact hin m (List.mem_append.mpr (.inr hv))
      · exact hin m (List.mem_append.mpr (.inl hm))
  · rw [h.d]
    exact Nat.lt_of_le_of_lt (E_bound (m := 8) (fun m hm => hin m (List.mem_append.mpr (.inl hm))) (by omega)) (pow_fine hB (by omega))
theorem fineR {rows : Rows} {n B b : Nat} (hl : ∀ r ∈ rows, r.length = n) (hm : rows.length ≤ 7) (hB : 9 * (B + 1) ≤ 2 ^ b) (hs : ∀ r ∈ rows, ∀ x, (cell r x).natAbs ≤ B) (j : Nat) : Fine (7 * b + 1) ((runR rows j).left.drop (runR rows j).k) (runR rows j).d := by
  obtain ⟨T, L0, cs, U, L, h⟩ := okR_run hl j
  have hp := h.st.perm
  have hlen := hp.length_eq
  simp at hlen
  have hin : ∀ m ∈ T ++ L0, ∀ x, (m x).natAbs ≤ B := fun m hm x => by
    obtain ⟨r, hr, rfl⟩ := List.mem_map.mp (hp.mem_iff.mpr hm)
    exact hs r hr x
  have hT := h.st.len
  have e0 : (runR rows j).left.drop (runR rows j).k = L := by rw [h.left, ← h.ul]; simp
  rw [e0]
  refine ⟨fun r hr x => ?_, by rw [h.d]; exact h.st.nz, ?_⟩
  · have : vec r ∈ L0.map (low T cs) := by rw [← h.lows.eq]; exact List.mem_map_of_mem hr
    obtain ⟨v, hv, e⟩ := List.mem_map.mp this
    have e2 : cell r x = E (v :: T) (x :: cs) := (congrFun e x).symm
    have hL : 0 < L0.length := List.length_pos_of_mem hv
    rw [e2]
    refine Nat.lt_of_le_of_lt (E_bound (m := 8) (T := v :: T) (fun m hm => ?_) (by simp; omega)) (pow_fine hB (by simp; omega))
    rcases List.mem_cons.mp hm with e | hm
    · subst e; exact hin m (List.mem_append.mpr (.inr hv))
    · exact hin m (List.mem_append.mpr (.inl hm))
  · rw [h.d]
    exact Nat.lt_of_le_of_lt (E_bound (m := 8) (fun m hm => hin m (List.mem_append.mpr (.inl hm))) (by omega)) (pow_fine hB (by omega))
end BA
end

section
set_option linter.all false
/-! BA7: shapes. Own work. -/
namespace BA
theorem runS_shape {rows : Rows} {n : Nat} (hl : ∀ r ∈ rows, r.length = n) (j : Nat) : (runS rows j).left.length = rows.length ∧ (∀ r ∈ (runS rows j).left, r.length = n) ∧ (runS rows j).lds.length ≤ rows.length := by
  obtain ⟨T, L0, cs, U, L, h⟩ := okS_run hl j
  have h1 := h.st.perm.length_eq
  have h2 := congrArg List.length h.lows.eq
  have h3 := congrArg List.length h.up
  have h4 := h.st.len
  have h5 := h.ul
  simp [ups_length] at h1 h2 h3
  refine ⟨by rw [h.left, List.length_append]; omega, fun r hr => ?_, by omega⟩
  rw [h.left] at hr
  rcases List.mem_append.mp hr with hr | hr
  · exact h.ulen r hr
  · exact h.lows.len r hr
theorem runR_shape {rows : Rows} {n : Nat} (hl : ∀ r ∈ rows, r.length = n) (j : Nat) : (runR rows j).left.length = rows.length ∧ (∀ r ∈ (runR rows j).left, r.length = n) ∧ (runR rows j).k ≤ rows.length := by
  obtain ⟨T, L0, cs, U, L, h⟩ := okR_run hl j
  have h1 := h.st.perm.length_eq
  have h2 := congrArg List.length h.lows.eq
  have h4 := h.st.len
  have h5 := h.ul
  have h6 := h.k
  simp at h1 h2
  refine ⟨by rw [h.left, List.length_append]; omega, fun r hr => ?_, by omega⟩
  rw [h.left] at hr
  rcases List.mem_append.mp hr with hr | hr
  · exact h.ulen r hr
  · exact h.lows.len r hr
theorem swp_mem {l : Rows} {i j : Nat} (hi : i < l.length) (hj : j < l.length) {r : List Int} (h : r ∈ swp [] l i j) : r ∈ l := (swp_perm hi hj).mem_iff.mp h
theorem row_mem {l : Rows} {i : Nat} (h : i < l.length) : row l i ∈ l := by unfold row; rw [getD_at h]; exact List.getElem_mem _
theorem swp_length {α : Type} {d : α} {l : List α} {i j : Nat} : (swp d l i j).length = l.length := by simp [swp]
theorem swp_cut {l : Rows} {k i : Nat} (hk : k < l.length) (hi : k ≤ i) (hi2 : i < l.length) : ∃ L1, swp [] l k i = l.take k ++ row l i :: L1 ∧ (∀ r ∈ L1, r ∈ l.drop k) ∧ row l i ∈ l.drop k := by
  have e : l.take k ++ l.drop k = l := List.take_append_drop k l
  have hl : (l.take k).length = k := by rw [List.length_take]; omega
  have hd : (l.drop k).length = l.length - k := List.length_drop
  obtain ⟨i', rfl⟩ : ∃ i', i = k + i' := ⟨i - k, by omega⟩
  have q := swp_app (d := ([] : List Int)) (l.take k) (l.drop k) i'
  rw [e, hl] at q
  obtain ⟨L1, e1⟩ := swp_ne (d := ([] : List Int)) (L := l.drop k) (i := i') (by omega)
  have e2 : (l.drop k).getD i' [] = row l (k + i') := by
    unfold row
    rw [List.getD_eq_getElem?_getD, List.getD_eq_getElem?_getD, List.getElem?_drop]
  rw [e2] at e1
  have hp : (row l (k + i') :: L1).Perm (l.drop k) := by
    rw [← e1]
    exact swp_perm (by omega) (by omega)
  exact ⟨L1, by rw [q, e1], fun r hr => hp.mem_iff.mp (List.mem_cons_of_mem _ hr), hp.mem_iff.mp (List.mem_cons_self ..)⟩
end BA
end

section
set_option Elab.async false
set_option linter.all false
set_option maxRecDepth 100000
set_option maxHeartbeats 4000000
/-! printed by gen.py from the law's text -/
namespace RL.T
open PySem
def top (i : Nat) : Stmt := PySem.Challenge.pw_likecells_k02_rows_of_integers.main.body.getD i (.Pass ⟨0, 0, 0, 0⟩)
def s0_greatest_divisor : St := .asg 1 (.dat (.int 0))
def x0_greatest_divisor : Ex := .tup (.cons (.var 1) (.cons (.bi .abs (.cons (.var 2) (.nil))) (.nil)))
def s1_greatest_divisor : St := .asgP (.cons (.name 3) (.cons (.name 4) (.nil))) (x0_greatest_divisor)
def x1_greatest_divisor : Ex := .tup (.cons (.var 4) (.cons (.bin .mod (.var 3) (.var 4)) (.nil)))
def s2_greatest_divisor : St := .asgP (.cons (.name 3) (.cons (.name 4) (.nil))) (x1_greatest_divisor)
def y0_greatest_divisor : St := .cons (s2_greatest_divisor) (.nil)
def s3_greatest_divisor : St := .whl 16777216 (.cmp .ne (.var 4) (.dat (.int 0))) (y0_greatest_divisor)
def s4_greatest_divisor : St := .asg 1 (.var 3)
def y1_greatest_divisor : St := .cons (s1_greatest_divisor) (.cons (s3_greatest_divisor) (.cons (s4_greatest_divisor) (.nil)))
def s5_greatest_divisor : St := .forr false (.name 2) .val (.cons (.var 0) (.nil)) (y1_greatest_divisor)
def s6_greatest_divisor : St := .ret (.var 1)
def s0_shrunk : St := .asg 1 (.call 0 (.cons (.var 0) (.nil)))
def k0_shrunk : Ex := .comp false false (.name 2) .val (.cons (.var 0) (.nil)) (.dat (.bl true)) (.bin .fdiv (.var 2) (.var 1))
def x0_shrunk : Ex := .ite (.cmp .eq (.var 1) (.dat (.int 0))) (.bi .list (.cons (.var 0) (.nil))) (k0_shrunk)
def s1_shrunk : St := .ret (x0_shrunk)
def k0_stepped : Ex := .comp true false (.name 8) .val (.cons (.var 0) (.nil)) (.dat (.bl true)) (.bi .list (.cons (.var 8) (.nil)))
def s0_stepped : St := .asgT (.cons (.var 2) (.cons (.var 3) (.cons (.var 4) (.nil)))) (.cons (k0_stepped) (.cons (.lst true (.nil)) (.cons (.dat (.int 1)) (.nil))))
def s1_stepped : St := .asg 5 (.bi .len (.cons (.var 3) (.nil)))
def k1_stepped : Ex := .comp false false (.name 9) .range (.cons (.var 5) (.cons (.bi .len (.cons (.var 2) (.nil))) (.nil))) (.cmp .ne (.sub (.sub (.var 2) (.var 9)) (.var 1)) (.dat (.int 0))) (.var 9)
def s2_stepped : St := .asg 6 (k1_stepped)
def s3_stepped : St := .asgT (.cons (.sub (.var 2) (.var 5)) (.cons (.sub (.var 2) (.sub (.var 6) (.dat (.int 0)))) (.nil))) (.cons (.sub (.var 2) (.sub (.var 6) (.dat (.int 0)))) (.cons (.sub (.var 2) (.var 5)) (.nil)))
def s4_stepped : St := .asg 7 (.sub (.var 2) (.var 5))
def k2_stepped : Ex := .comp true false (.cons (.name 9) (.cons (.name 8) (.nil))) .enum (.cons (.frz (.var 2)) (.nil)) (.dat (.bl true)) (.ite (.cmp .eq (.var 9) (.var 5)) (.var 8) (.call 3 (.cons (.var 8) (.cons (.var 7) (.cons (.var 1) (.cons (.var 4) (.nil)))))))
def s5_stepped : St := .asg 2 (k2_stepped)
def s6_stepped : St := .app 3 (.var 1)
def s7_stepped : St := .asg 4 (.sub (.var 7) (.var 1))
def y0_stepped : St := .cons (s3_stepped) (.cons (s4_stepped) (.cons (s5_stepped) (.cons (s6_stepped) (.cons (s7_stepped) (.nil)))))
def s8_stepped : St := .ife (.cmp .ne (.var 6) (.lst false (.nil))) (y0_stepped) (.nil)
def y1_stepped : St := .cons (s1_stepped) (.cons (s2_stepped) (.cons (s8_stepped) (.nil)))
def s9_stepped : St := .forr false (.name 1) .range (.cons (.ite (.cmp .ne (.var 0) (.lst false (.nil))) (.bi .len (.cons (.sub (.var 0) (.dat (.int 0))) (.nil))) (.dat (.int 0))) (.nil)) (y1_stepped)
def x0_stepped : Ex := .tup (.cons (.slice (.var 2) (.nil) (.cons (.bi .len (.cons (.var 3) (.nil))) (.nil))) (.cons (.frz (.var 3)) (.cons (.var 4) (.nil))))
def s10_stepped : St := .ret (x0_stepped)
def x0_cleared : Ex := .tup (.cons (.sub (.var 1) (.var 2)) (.cons (.sub (.var 0) (.var 2)) (.nil)))
def s0_cleared : St := .asgP (.cons (.name 4) (.cons (.name 5) (.nil))) (x0_cleared)
def k0_cleared : Ex := .comp false false (.name 6) .val (.cons (.var 0) (.nil)) (.dat (.bl true)) (.ite (.cmp .ne (.var 6) (.dat (.int 0))) (.bin .fdiv (.bin .mul (.var 6) (.var 4)) (.var 3)) (.dat (.int 0)))
def s1_cleared : St := .ret (k0_cleared)
def y0_cleared : St := .cons (s1_cleared) (.nil)
def s2_cleared : St := .ife (.cmp .eq (.var 5) (.dat (.int 0))) (y0_cleared) (.nil)
def k1_cleared : Ex := .comp false false (.cons (.name 6) (.cons (.name 7) (.nil))) .zip (.cons (.var 0) (.cons (.var 1) (.nil))) (.dat (.bl true)) (.bin .fdiv (.bin .sub (.bin .mul (.var 6) (.var 4)) (.bin .mul (.var 5) (.var 7))) (.var 3))
def s3_cleared : St := .ret (k1_cleared)
def x0_rank_of : Ex := .bi .len (.cons (.sub (.call 2 (.cons (.bi .list (.cons (.var 0) (.nil))) (.nil))) (.dat (.int 1))) (.nil))
def s0_rank_of : St := .ret (x0_rank_of)
def x0_noughts : Ex := .call 2 (.cons (.bi .list (.cons (.var 0) (.nil))) (.nil))
def s0_noughts : St := .asgP (.cons (.name 4) (.cons (.name 5) (.cons (.name 6) (.nil)))) (x0_noughts)
def s1_noughts : St := .asg 2 (.lst true (.nil))
def k0_noughts : Ex := .comp false false (.name 8) .range (.cons (.var 1) (.nil)) (.cmp .notIn (.var 8) (.var 5)) (.var 8)
def x1_noughts : Ex := .repM (.lst false (.cons (.dat (.int 0)) (.nil))) (.var 1)
def s2_noughts : St := .asg 7 (x1_noughts)
def s3_noughts : St := .setI (.var 7) (.var 3) (.var 6)
def s4_noughts : St := .setI (.var 7) (.var 9) (.neg (.sub (.var 10) (.var 3)))
def y0_noughts : St := .cons (s4_noughts) (.nil)
def s5_noughts : St := .forr false (.cons (.name 9) (.cons (.name 10) (.nil))) .zip (.cons (.var 5) (.cons (.var 4) (.nil))) (y0_noughts)
def s6_noughts : St := .app 2 (.call 1 (.cons (.frz (.var 7)) (.nil)))
def y1_noughts : St := .cons (s2_noughts) (.cons (s3_noughts) (.cons (s5_noughts) (.cons (s6_noughts) (.nil))))
def s7_noughts : St := .forr false (.name 3) .val (.cons (k0_noughts) (.nil)) (y1_noughts)
def s8_noughts : St := .ret (.frz (.var 2))
def k0_product : Ex := .comp false false (.cons (.name 2) (.cons (.name 3) (.nil))) .zip (.cons (.var 0) (.cons (.var 1) (.nil))) (.dat (.bl true)) (.bin .mul (.var 2) (.var 3))
def s0_product : St := .ret (.bi .sum (.cons (k0_product) (.nil)))
def x0__law_pick : Ex := .sub (.var 1) (.draw (.var 0) (.bi .len (.cons (.var 1) (.nil))))
def s0__law_pick : St := .ret (x0__law_pick)
def k0__law_rank : Ex := .comp true false (.name 7) .val (.cons (.var 0) (.nil)) (.dat (.bl true)) (.bi .list (.cons (.var 7) (.nil)))
def s0__law_rank : St := .asgT (.cons (.var 2) (.cons (.var 3) (.cons (.var 4) (.nil)))) (.cons (k0__law_rank) (.cons (.dat (.int 0)) (.cons (.dat (.int 1)) (.nil))))
def k1__law_rank : Ex := .comp false false (.name 8) .range (.cons (.var 3) (.cons (.bi .len (.cons (.var 2) (.nil))) (.nil))) (.cmp .ne (.sub (.sub (.var 2) (.var 8)) (.var 1)) (.dat (.int 0))) (.var 8)
def s1__law_rank : St := .asg 5 (k1__law_rank)
def s2__law_rank : St := .asgT (.cons (.sub (.var 2) (.var 3)) (.cons (.sub (.var 2) (.sub (.var 5) (.dat (.int 0)))) (.nil))) (.cons (.sub (.var 2) (.sub (.var 5) (.dat (.int 0)))) (.cons (.sub (.var 2) (.var 3)) (.nil)))
def s3__law_rank : St := .asg 6 (.sub (.var 2) (.var 3))
def k2__law_rank : Ex := .comp false false (.cons (.name 9) (.cons (.name 10) (.nil))) .zip (.cons (.var 7) (.cons (.var 6) (.nil))) (.dat (.bl true)) (.bin .fdiv (.bin .sub (.bin .mul (.sub (.var 6) (.var 1)) (.var 9)) (.bin .mul (.sub (.var 7) (.var 1)) (.var 10))) (.var 4))
def k3__law_rank : Ex := .comp false false (.name 7) .val (.cons (.slice (.var 2) (.cons (.bin .add (.var 3) (.dat (.int 1))) (.nil)) (.nil)) (.nil)) (.dat (.bl true)) (k2__law_rank)
def x0__law_rank : Ex := .catM (.slice (.var 2) (.nil) (.cons (.bin .add (.var 3) (.dat (.int 1))) (.nil))) (k3__law_rank)
def s4__law_rank : St := .asg 2 (x0__law_rank)
def x1__law_rank : Ex := .tup (.cons (.bin .add (.var 3) (.dat (.int 1))) (.cons (.sub (.var 6) (.var 1)) (.nil)))
def s5__law_rank : St := .asgP (.cons (.name 3) (.cons (.name 4) (.nil))) (x1__law_rank)
def y0__law_rank : St := .cons (s2__law_rank) (.cons (s3__law_rank) (.cons (s4__law_rank) (.cons (s5__law_rank) (.nil))))
def s6__law_rank : St := .ife (.cmp .ne (.var 5) (.lst false (.nil))) (y0__law_rank) (.nil)
def y1__law_rank : St := .cons (s1__law_rank) (.cons (s6__law_rank) (.nil))
def s7__law_rank : St := .forr false (.name 1) .range (.cons (.ite (.cmp .ne (.var 0) (.lst false (.nil))) (.bi .len (.cons (.sub (.var 0) (.dat (.int 0))) (.nil))) (.dat (.int 0))) (.nil)) (y1__law_rank)
def s8__law_rank : St := .ret (.var 3)
def k0__law_dot : Ex := .comp false false (.cons (.name 2) (.cons (.name 3) (.nil))) .zip (.cons (.var 0) (.cons (.var 1) (.nil))) (.dat (.bl true)) (.bin .mul (.var 2) (.var 3))
def s0__law_dot : St := .ret (.bi .sum (.cons (k0__law_dot) (.nil)))
def x0__law_rows : Ex := .call 7 (.cons (.var 0) (.cons (.lst false (.cons (.lst false (.cons (.neg (.dat (.int 1))) (.cons (.dat (.int 0)) (.cons (.dat (.int 1)) (.nil))))) (.cons (.lst false (.cons (.neg (.dat (.int 5))) (.cons (.dat (.int 0)) (.cons (.dat (.int 0)) (.cons (.dat (.int 2)) (.cons (.dat (.int 3)) (.nil))))))) (.cons (.lst false (.cons (.bin .pow (.dat (.int 10)) (.dat (.int 30))) (.cons (.bin .add (.neg (.bin .pow (.dat (.int 10)) (.dat (.int 30)))) (.dat (.int 1))) (.cons (.dat (.int 0)) (.cons (.dat (.int 7)) (.nil)))))) (.cons (.lst false (.cons (.dat (.int 0)) (.cons (.dat (.int 0)) (.cons (.dat (.int 0)) (.cons (.dat (.int 4)) (.nil)))))) (.nil)))))) (.nil)))
def s0__law_rows : St := .asgT (.cons (.var 3) (.cons (.var 4) (.nil))) (.cons (x0__law_rows) (.cons (.lst true (.nil)) (.nil)))
def k0__law_rows : Ex := .comp false true (.name 6) .range (.cons (.var 1) (.nil)) (.dat (.bl true)) (.call 7 (.cons (.var 0) (.cons (.var 3) (.nil))))
def s1__law_rows : St := .asg 5 (k0__law_rows)
def x1__law_rows : Ex := .and (.cmp .ne (.var 4) (.lst false (.nil))) (.cmp .eq (.draw (.var 0) (.dat (.int 3))) (.dat (.int 0)))
def x2__law_rows : Ex := .tup (.cons (.calls 7 (.cons (.var 0) (.cons (.var 4) (.nil)))) (.cons (.calls 7 (.cons (.var 0) (.cons (.var 4) (.nil)))) (.cons (.bin .sub (.draw (.var 0) (.dat (.int 7))) (.dat (.int 3))) (.nil))))
def s2__law_rows : St := .asgP (.cons (.name 7) (.cons (.name 8) (.cons (.name 9) (.nil)))) (x2__law_rows)
def k1__law_rows : Ex := .comp false false (.cons (.name 10) (.cons (.name 11) (.nil))) .zip (.cons (.var 7) (.cons (.var 8) (.nil))) (.dat (.bl true)) (.bin .add (.var 10) (.bin .mul (.var 9) (.var 11)))
def s3__law_rows : St := .asg 5 (k1__law_rows)
def y0__law_rows : St := .cons (s2__law_rows) (.cons (s3__law_rows) (.nil))
def s4__law_rows : St := .ife (x1__law_rows) (y0__law_rows) (.nil)
def s5__law_rows : St := .app 4 (.var 5)
def y1__law_rows : St := .cons (s1__law_rows) (.cons (s4__law_rows) (.cons (s5__law_rows) (.nil)))
def s6__law_rows : St := .forr true (.name 2) .range (.cons (.draw (.var 0) (.dat (.int 7))) (.nil)) (y1__law_rows)
def s7__law_rows : St := .ret (.frz (.var 4))
def s0__law_divisor : St := .asg 1 (.dat (.int 0))
def x0__law_divisor : Ex := .tup (.cons (.bi .abs (.cons (.var 2) (.nil))) (.cons (.bi .int (.cons (.var 1) (.nil))) (.nil)))
def s1__law_divisor : St := .asgP (.cons (.name 3) (.cons (.name 4) (.nil))) (x0__law_divisor)
def x1__law_divisor : Ex := .tup (.cons (.var 4) (.cons (.bin .mod (.var 3) (.var 4)) (.nil)))
def s2__law_divisor : St := .asgP (.cons (.name 3) (.cons (.name 4) (.nil))) (x1__law_divisor)
def y0__law_divisor : St := .cons (s2__law_divisor) (.nil)
def s3__law_divisor : St := .whl 16777216 (.cmp .gt (.var 4) (.dat (.int 0))) (y0__law_divisor)
def s4__law_divisor : St := .asg 1 (.var 3)
def y1__law_divisor : St := .cons (s1__law_divisor) (.cons (s3__law_divisor) (.cons (s4__law_divisor) (.nil)))
def s5__law_divisor : St := .forr false (.name 2) .val (.cons (.var 0) (.nil)) (y1__law_divisor)
def s6__law_divisor : St := .ret (.var 1)
def x0__law_right : Ex := .bin .add (.dat (.int 1)) (.draw (.var 0) (.dat (.int 7)))
def s0__law_right : St := .asg 1 (x0__law_right)
def s1__law_right : St := .asg 2 (.call 10 (.cons (.var 0) (.cons (.var 1) (.nil))))
def k0__law_right : Ex := .comp false false (.name 5) .val (.cons (.var 2) (.nil)) (.dat (.bl true)) (.bi .list (.cons (.var 5) (.nil)))
def x1__law_right : Ex := .tup (.cons (k0__law_right) (.cons (.call 8 (.cons (.var 2) (.nil))) (.nil)))
def s2__law_right : St := .asgP (.cons (.name 6) (.cons (.name 7) (.nil))) (x1__law_right)
def x2__law_right : Ex := .cmp .ne (.bi .repr (.cons (.lst false (.cons (.call 4 (.cons (.var 2) (.nil))) (.cons (.callk 4 [0] (.nil) (.cons (.rev (.var 2)) (.nil))) (.nil)))) (.nil))) (.bi .repr (.cons (.lst false (.cons (.var 7) (.cons (.var 7) (.nil)))) (.nil)))
def s3__law_right : St := .ret (.dat (.bl false))
def y0__law_right : St := .cons (s3__law_right) (.nil)
def s4__law_right : St := .ife (x2__law_right) (y0__law_right) (.nil)
def x3__law_right : Ex := .callk 5 [1, 0] (.nil) (.cons (.var 1) (.cons (.var 2) (.nil)))
def s5__law_right : St := .asg 3 (x3__law_right)
def k1__law_right : Ex := .comp false false (.name 5) .val (.cons (.var 3) (.nil)) (.dat (.bl true)) (.bi .list (.cons (.var 5) (.nil)))
def k2__law_right : Ex := .comp false false (.name 5) .val (.cons (.var 3) (.nil)) (.cmp .ne (.bi .len (.cons (.var 5) (.nil))) (.var 1)) (.dat (.int 1))
def x4__law_right : Ex := .or (.cmp .ne (.bi .len (.cons (.var 3) (.nil))) (.bin .sub (.var 1) (.var 7))) (.or (.cmp .ne (.call 8 (.cons (k1__law_right) (.nil))) (.bin .sub (.var 1) (.var 7))) (.cmp .ne (k2__law_right) (.lst false (.nil))))
def s6__law_right : St := .ret (.dat (.bl false))
def y1__law_right : St := .cons (s6__law_right) (.nil)
def s7__law_right : St := .ife (x4__law_right) (y1__law_right) (.nil)
def k3__law_right : Ex := .comp false false (.name 8) .val (.cons (.var 3) (.nil)) (.cmp .ne (.call 9 (.cons (.var 8) (.cons (.var 4) (.nil)))) (.dat (.int 0))) (.dat (.int 1))
def s8__law_right : St := .ret (.dat (.bl false))
def y2__law_right : St := .cons (s8__law_right) (.nil)
def s9__law_right : St := .ife (.cmp .ne (k3__law_right) (.lst false (.nil))) (y2__law_right) (.nil)
def y3__law_right : St := .cons (s9__law_right) (.nil)
def s10__law_right : St := .forr false (.name 4) .val (.cons (.var 2) (.nil)) (y3__law_right)
def s11__law_right : St := .ret (.dat (.bl false))
def y4__law_right : St := .cons (s11__law_right) (.nil)
def s12__law_right : St := .ife (.cmp .ne (.var 2) (.var 6)) (y4__law_right) (.nil)
def x5__law_right : Ex := .tup (.cons (.call 11 (.cons (.var 5) (.nil))) (.cons (.callk 1 [0] (.nil) (.cons (.var 5) (.nil))) (.nil)))
def s13__law_right : St := .asgP (.cons (.name 9) (.cons (.name 10) (.nil))) (x5__law_right)
def k4__law_right : Ex := .comp false false (.name 12) .val (.cons (.var 10) (.nil)) (.dat (.bl true)) (.bin .mul (.var 12) (.bi .max (.cons (.dat (.int 1)) (.cons (.var 9) (.nil)))))
def x6__law_right : Ex := .or (.cmp .ne (.bi .repr (.cons (.callk 0 [0] (.nil) (.cons (.var 5) (.nil))) (.nil))) (.bi .repr (.cons (.var 9) (.nil)))) (.or (.cmp .ne (k4__law_right) (.var 5)) (.cmp .ne (.call 11 (.cons (.var 10) (.nil))) (.bi .int (.cons (.cmp .gt (.var 9) (.dat (.int 0))) (.nil)))))
def s14__law_right : St := .ret (.dat (.bl false))
def y5__law_right : St := .cons (s14__law_right) (.nil)
def s15__law_right : St := .ife (x6__law_right) (y5__law_right) (.nil)
def y6__law_right : St := .cons (s13__law_right) (.cons (s15__law_right) (.nil))
def s16__law_right : St := .forr false (.name 5) .val (.cons (.var 2) (.nil)) (y6__law_right)
def k5__law_right : Ex := .comp false true (.name 11) .range (.cons (.var 1) (.nil)) (.dat (.bl true)) (.bin .sub (.draw (.var 0) (.dat (.int 99))) (.dat (.int 49)))
def k6__law_right : Ex := .comp false true (.name 11) .range (.cons (.var 1) (.nil)) (.dat (.bl true)) (.call 7 (.cons (.var 0) (.cons (.lst false (.cons (.dat (.int 0)) (.cons (.dat (.int 1)) (.cons (.neg (.bin .pow (.dat (.int 10)) (.dat (.int 40)))) (.nil))))) (.nil))))
def x7__law_right : Ex := .tup (.cons (k5__law_right) (.cons (k6__law_right) (.nil)))
def s17__law_right : St := .asgP (.cons (.name 8) (.cons (.name 4) (.nil))) (x7__law_right)
def x8__law_right : Ex := .cmp .eq (.bi .repr (.cons (.lst false (.cons (.call 6 (.cons (.var 8) (.cons (.var 4) (.nil)))) (.cons (.callk 6 [1, 0] (.nil) (.cons (.var 8) (.cons (.var 4) (.nil)))) (.nil)))) (.nil))) (.bi .repr (.cons (.bin .mul (.lst false (.cons (.call 9 (.cons (.var 8) (.cons (.var 4) (.nil)))) (.nil))) (.dat (.int 2))) (.nil)))
def s18__law_right : St := .ret (x8__law_right)
def x0__law_draw : Ex := .cmp .gt (.sub (.var 0) (.dat (.int 2))) (.dat (.int 0))
def x1__law_draw : Ex := .bi .int (.cons (.sub (.var 0) (.dat (.int 2))) (.nil))
def s0__law_draw : St := .asg 5 (x1__law_draw)
def s1__law_draw : St := .setI (.var 0) (.dat (.int 2)) (.bin .fdiv (.var 5) (.var 1))
def x2__law_draw : Ex := .bin .mod (.bi .int (.cons (.var 5) (.nil))) (.var 1)
def s2__law_draw : St := .ret (x2__law_draw)
def y0__law_draw : St := .cons (s0__law_draw) (.cons (s1__law_draw) (.cons (s2__law_draw) (.nil)))
def s3__law_draw : St := .ife (x0__law_draw) (y0__law_draw) (.nil)
def s4__law_draw : St := .asg 2 (.sub (.var 0) (.dat (.int 1)))
def s5__law_draw : St := .setI (.var 0) (.dat (.int 1)) (.bin .add (.var 2) (.dat (.int 1)))
def x3__law_draw : Ex := .bin .add (.bin .mul (.dat (.int 90155)) (.var 2)) (.dat (.int 3037))
def s6__law_draw : St := .asg 3 (x3__law_draw)
def x4__law_draw : Ex := .cmp .ne (.sub (.var 0) (.dat (.int 0))) (.lst false (.nil))
def x5__law_draw : Ex := .sub (.sub (.var 0) (.dat (.int 0))) (.bin .mod (.bi .int (.cons (.var 2) (.nil))) (.bi .len (.cons (.sub (.var 0) (.dat (.int 0))) (.nil))))
def s7__law_draw : St := .asg 3 (x5__law_draw)
def y1__law_draw : St := .cons (s7__law_draw) (.nil)
def s8__law_draw : St := .ife (x4__law_draw) (y1__law_draw) (.nil)
def x6__law_draw : Ex := .and (.cmp .lt (.var 2) (.bi .len (.cons (.sub (.var 0) (.dat (.int 0))) (.nil)))) (.cmp .ge (.bi .abs (.cons (.var 3) (.nil))) (.bin .pow (.dat (.int 10)) (.dat (.int 18))))
def x7__law_draw : Ex := .bin .add (.bin .mul (.dat (.int 2)) (.bin .sub (.bi .abs (.cons (.var 3) (.nil))) (.bin .pow (.dat (.int 10)) (.dat (.int 18))))) (.bi .int (.cons (.cmp .lt (.var 3) (.dat (.int 0))) (.nil)))
def s9__law_draw : St := .asg 5 (x7__law_draw)
def s10__law_draw : St := .setI (.var 0) (.dat (.int 2)) (.bin .fdiv (.bi .int (.cons (.var 5) (.nil))) (.var 1))
def x8__law_draw : Ex := .bin .mod (.bi .int (.cons (.var 5) (.nil))) (.var 1)
def s11__law_draw : St := .ret (x8__law_draw)
def y2__law_draw : St := .cons (s9__law_draw) (.cons (s10__law_draw) (.cons (s11__law_draw) (.nil)))
def s12__law_draw : St := .ife (x6__law_draw) (y2__law_draw) (.nil)
def x9__law_draw : Ex := .bin .mod (.bi .int (.cons (.bin .pow (.bin .add (.bin .add (.bin .mod (.bi .int (.cons (.var 3) (.nil))) (.dat (.int 2147483579))) (.bin .mul (.dat (.int 60071)) (.var 2))) (.dat (.int 3037))) (.dat (.int 5))) (.nil))) (.dat (.int 2147483629))
def s13__law_draw : St := .asg 4 (x9__law_draw)
def x10__law_draw : Ex := .bin .mod (.bi .int (.cons (.bin .pow (.bin .add (.bin .add (.bin .mul (.var 4) (.bin .add (.bin .mul (.dat (.int 2)) (.var 2)) (.dat (.int 215)))) (.bin .mul (.bin .mul (.dat (.int 90155)) (.var 2)) (.var 2))) (.dat (.int 60071))) (.dat (.int 3))) (.nil))) (.dat (.int 2147483549))
def s14__law_draw : St := .asg 4 (x10__law_draw)
def x11__law_draw : Ex := .bin .mod (.bi .int (.cons (.bin .fdiv (.var 4) (.dat (.int 64))) (.nil))) (.var 1)
def s15__law_draw : St := .ret (x11__law_draw)
/-- greatest_divisor -/
def b_greatest_divisor : St := .cons (s0_greatest_divisor) (.cons (s5_greatest_divisor) (.cons (s6_greatest_divisor) (.nil)))
def e_greatest_divisor : Ent := ⟨"greatest_divisor", top 1, ⟨1, 5, b_greatest_divisor⟩, ["numbers", "found", "number", "one", "other"], ["numbers"]⟩
/-- shrunk -/
def b_shrunk : St := .cons (s0_shrunk) (.cons (s1_shrunk) (.nil))
def e_shrunk : Ent := ⟨"shrunk", top 2, ⟨1, 3, b_shrunk⟩, ["numbers", "divisor", "number"], ["numbers"]⟩
/-- stepped -/
def b_stepped : St := .cons (s0_stepped) (.cons (s9_stepped) (.cons (s10_stepped) (.nil)))
def e_stepped : Ent := ⟨"stepped", top 3, ⟨1, 10, b_stepped⟩, ["rows", "at", "left", "leads", "divisor", "top", "spots", "line", "row", "spot"], ["rows"]⟩
/-- cleared -/
def b_cleared : St := .cons (s0_cleared) (.cons (s2_cleared) (.cons (s3_cleared) (.nil)))
def e_cleared : Ent := ⟨"cleared", top 4, ⟨4, 8, b_cleared⟩, ["row", "line", "at", "divisor", "pivot", "times", "part", "its"], ["row", "line", "at", "divisor"]⟩
/-- rank_of -/
def b_rank_of : St := .cons (s0_rank_of) (.nil)
def e_rank_of : Ent := ⟨"rank_of", top 5, ⟨1, 1, b_rank_of⟩, ["rows"], ["rows"]⟩
/-- noughts -/
def b_noughts : St := .cons (s0_noughts) (.cons (s1_noughts) (.cons (s7_noughts) (.cons (s8_noughts) (.nil))))
def e_noughts : Ent := ⟨"noughts", top 6, ⟨2, 11, b_noughts⟩, ["rows", "many", "found", "free", "led", "leads", "divisor", "told", "at", "lead", "row"], ["rows", "many"]⟩
/-- product -/
def b_product : St := .cons (s0_product) (.nil)
def e_product : Ent := ⟨"product", top 7, ⟨2, 4, b_product⟩, ["one", "other", "part", "its"], ["one", "other"]⟩
/-- _law_pick -/
def b__law_pick : St := .cons (s0__law_pick) (.nil)
def e__law_pick : Ent := ⟨"_law_pick", top 11, ⟨2, 2, b__law_pick⟩, ["pen", "some"], ["pen", "some"]⟩
/-- _law_rank -/
def b__law_rank : St := .cons (s0__law_rank) (.cons (s7__law_rank) (.cons (s8__law_rank) (.nil)))
def e__law_rank : Ent := ⟨"_law_rank", top 12, ⟨1, 11, b__law_rank⟩, ["rows", "at", "left", "rank", "divisor", "leads", "top", "row", "spot", "part", "its"], ["rows"]⟩
/-- _law_dot -/
def b__law_dot : St := .cons (s0__law_dot) (.nil)
def e__law_dot : Ent := ⟨"_law_dot", top 13, ⟨2, 4, b__law_dot⟩, ["one", "other", "part", "its"], ["one", "other"]⟩
/-- _law_rows -/
def b__law_rows : St := .cons (s0__law_rows) (.cons (s6__law_rows) (.cons (s7__law_rows) (.nil)))
def e__law_rows : Ent := ⟨"_law_rows", top 14, ⟨2, 12, b__law_rows⟩, ["pen", "many", "spot", "pool", "found", "row", "at", "one", "other", "times", "part", "its"], ["pen", "many"]⟩
/-- _law_divisor -/
def b__law_divisor : St := .cons (s0__law_divisor) (.cons (s5__law_divisor) (.cons (s6__law_divisor) (.nil)))
def e__law_divisor : Ent := ⟨"_law_divisor", top 15, ⟨1, 5, b__law_divisor⟩, ["numbers", "found", "number", "one", "other"], ["numbers"]⟩
/-- _law_right -/
def b__law_right : St := .cons (s0__law_right) (.cons (s1__law_right) (.cons (s2__law_right) (.cons (s4__law_right) (.cons (s5__law_right) (.cons (s7__law_right) (.cons (s10__law_right) (.cons (s12__law_right) (.cons (s16__law_right) (.cons (s17__law_right) (.cons (s18__law_right) (.nil)))))))))))
def e__law_right : Ent := ⟨"_law_right", top 16, ⟨1, 13, b__law_right⟩, ["pen", "many", "rows", "told", "other", "row", "kept", "rank", "one", "divisor", "less", "at", "part"], ["pen"]⟩
def s0_law : St := .ret (.dat (.bl false))
def y0_law : St := .cons (s0_law) (.nil)
def l_0_0 : St := .ife (.not (.call 12 (.cons (.var 1) (.nil)))) (y0_law) (.nil)
def l_0_body : St := .cons l_0_0 (.nil)
def l_0 : St := .forr true (.name 2) .range (.cons (.dat (.int 6)) (.nil)) l_0_body
def x0_law : Ex := .cmp .eq (.lst false (.cons (.call 4 (.cons (.lst false (.nil)) (.nil))) (.cons (.bi .len (.cons (.call 5 (.cons (.lst false (.nil)) (.cons (.dat (.int 3)) (.nil)))) (.nil))) (.cons (.call 0 (.cons (.lst false (.nil)) (.nil))) (.cons (.call 0 (.cons (.lst false (.cons (.dat (.int 0)) (.cons (.dat (.int 0)) (.nil)))) (.nil))) (.cons (.call 1 (.cons (.lst false (.cons (.dat (.int 0)) (.cons (.dat (.int 0)) (.nil)))) (.nil))) (.cons (.call 1 (.cons (.lst false (.nil)) (.nil))) (.nil)))))))) (.lst false (.cons (.dat (.int 0)) (.cons (.dat (.int 3)) (.cons (.dat (.int 0)) (.cons (.dat (.int 0)) (.cons (.lst false (.cons (.dat (.int 0)) (.cons (.dat (.int 0)) (.nil)))) (.cons (.lst false (.nil)) (.nil))))))))
def l_1 : St := .ret (x0_law)
def b_law : St := .cons l_0 (.cons l_1 (.nil))
def N_law : List Str := ["script", "pen", "turn"]
def b_draw : St := .cons (s3__law_draw) (.cons (s4__law_draw) (.cons (s5__law_draw) (.cons (s6__law_draw) (.cons (s8__law_draw) (.cons (s12__law_draw) (.cons (s13__law_draw) (.cons (s14__law_draw) (.cons (s15__law_draw) (.nil)))))))))
def N_draw : List Str := ["pen", "many", "turn", "cell", "mixed", "great"]
def blt_draw : List Str := ["abs", "int", "len"]
def tbl : Tbl := ⟨[e_greatest_divisor, e_shrunk, e_stepped, e_cleared, e_rank_of, e_noughts, e_product, e__law_pick, e__law_rank, e__law_dot, e__law_rows, e__law_divisor, e__law_right], [], [(4, 0, ["rows"], [0]), (5, 0, ["many", "rows"], [1, 0]), (1, 0, ["numbers"], [0]), (0, 0, ["numbers"], [0]), (6, 0, ["other", "one"], [1, 0])], "_law_draw", ["abs", "enumerate", "int", "len", "list", "max", "range", "repr", "sum", "zip"]⟩
def costs : Nat → Nat := fun i => [0, 0, 0, 0, 0, 0, 0, 1, 0, 0, 281475043819522, 0, 281475077373955].getD i 0
def law_cost : Nat := 4722368171719555809280
def i_law : Nat := 17
def i_pen : Nat := 9
def i_draw : Nat := 10
end RL.T
namespace RL.T
open PySem L2
theorem tbl_chk : tbl.ok = true := by decide +kernel
theorem draw_chk : chB b_draw (bare N_draw (defScope (top i_draw)) blt_draw) (defBody (top i_draw)) = true := by decide +kernel
theorem draw_fs : fsB N_draw ["pen", "many"] (defScope (top i_draw)) = true := by decide +kernel
theorem draw_few : mB (fun _ => 0) b_draw = some 0 := by decide +kernel
theorem law_fs : fsB N_law ["script"] (defScope (top i_law)) = true := by decide +kernel
theorem law_chk : chB b_law (tbl.nm N_law (defScope (top i_law))) ((defBody (top i_law)).drop 1) = true := by decide +kernel
theorem law_few : mB costs b_law = some law_cost := by decide +kernel
theorem costs_ok : (tbl.ents.mapIdx fun i e => match mB costs e.fn.body with
  | some m => decide (m ≤ costs i)
  | none => false).all id = true := by decide +kernel
end RL.T
end

section
set_option Elab.async false
set_option linter.all false
set_option maxRecDepth 100000
set_option maxHeartbeats 400000
namespace RL.T
open PySem L2
theorem T0 : tbl.T 0 = some ⟨1, 5, b_greatest_divisor⟩ := rfl
theorem T1 : tbl.T 1 = some ⟨1, 3, b_shrunk⟩ := rfl
theorem T2 : tbl.T 2 = some ⟨1, 10, b_stepped⟩ := rfl
theorem T3 : tbl.T 3 = some ⟨4, 8, b_cleared⟩ := rfl
theorem T4 : tbl.T 4 = some ⟨1, 1, b_rank_of⟩ := rfl
theorem T5 : tbl.T 5 = some ⟨2, 11, b_noughts⟩ := rfl
theorem T6 : tbl.T 6 = some ⟨2, 4, b_product⟩ := rfl
theorem T7 : tbl.T 7 = some ⟨2, 2, b__law_pick⟩ := rfl
theorem T8 : tbl.T 8 = some ⟨1, 11, b__law_rank⟩ := rfl
theorem T9 : tbl.T 9 = some ⟨2, 4, b__law_dot⟩ := rfl
theorem T10 : tbl.T 10 = some ⟨2, 12, b__law_rows⟩ := rfl
theorem T11 : tbl.T 11 = some ⟨1, 5, b__law_divisor⟩ := rfl
theorem T12 : tbl.T 12 = some ⟨1, 13, b__law_right⟩ := rfl
/-- numbers that are not too great -/
def Sm (b : Nat) (r : List Int) : Prop := ∀ p ∈ r, p.natAbs < 2 ^ b
/-! greatest divisors -/
theorem gd_s3 {C : Calls} {S : Sto} {l f n : Option W} (a b : Nat) (hb : b < 2 ^ 8000) : exB C s3_greatest_divisor [l, f, n, some (.d (.int a)), some (.d (.int b))] S = .ret (.nx, [l, f, n, some (.d (.int (Nat.gcd a b))), some (.d (.int 0))], S) := by
  unfold s3_greatest_divisor
  simp only [exB]
  refine while_gcd (fun a b => [l, f, n, some (.d (.int a)), some (.d (.int b))]) (fun a b => ?_) (fun a b h => ?_) 8000 a b 16777216 hb (by decide)
  · simp only [exB, evE, evL, tstE, M.bnd, opt_some, bnd_ret, opt_bnd, mapO, List.length_cons, List.length_nil, List.map_cons, List.map_nil, List.replicate, List.getElem?_cons_zero, List.getElem?_cons_succ, List.cons_append, List.nil_append, if_true, if_false, Bool.false_eq_true, Nat.sub_self, Bool.true_and, Bool.and_true, Bool.false_and, Bool.and_false, Bool.not_true, Bool.not_false, Bool.or_false, Bool.false_or, Bool.true_or, Bool.or_true, decide_true, decide_false, Option.map_some, permD, setW, List.set_cons_zero, List.set_cons_succ, bindP, bindPs, v_rd, v_dat, v_non, v_bl, v_int, v_lst, v_tup, v_str, v_add, v_sub, v_mul, v_fdiv, v_mod, v_cat, v_app, v_neg, v_lt, v_le, v_gt, v_ge, v_eq, v_isN, v_notN, v_in, v_nin, v_inS, v_eqI, v_eqS, v_neI, v_neS, v_lenS, v_lenL, v_lenT, v_repr, v_intI, v_intB, v_abs, v_ty_int_non, v_ty_int_bl, v_ty_int_int, v_ty_int_str, v_ty_int_lst, v_ty_int_tup, v_ty_int_dct, v_ty_bool_non, v_ty_bool_bl, v_ty_bool_int, v_ty_bool_str, v_ty_bool_lst, v_ty_bool_tup, v_ty_bool_dct, v_ty_str_non, v_ty_str_bl, v_ty_str_int, v_ty_str_str, v_ty_str_lst, v_ty_str_tup, v_ty_str_dct, v_ty_list_non, v_ty_list_bl, v_ty_list_int, v_ty_list_str, v_ty_list_lst, v_ty_list_tup, v_ty_list_dct, v_ty_tuple_non, v_ty_tuple_bl, v_ty_tuple_int, v_ty_tuple_str, v_ty_tuple_lst, v_ty_tuple_tup, v_ty_tuple_dct, v_ty_dict_non, v_ty_dict_bl, v_ty_dict_int, v_ty_dict_str, v_ty_dict_lst, v_ty_dict_tup, v_ty_dict_dct, v_isN_non, v_isN_int, v_isN_bl, v_isN_str, v_sliS, v_sliL, v_sliT, v_optN, v_optI, v_meT, v_join, v_walL, v_walT, v_walS, v_rng1, v_rng2, v_enum, v_zip, v_fewF, v_any1, v_any2, Nat.zero_add, Nat.reduceAdd, Nat.reduceLT, Nat.reduceLeDiff, Nat.reduceSub, Nat.reduceEqDiff, le_lim]
    by_cases h : b = 0
    · subst h
      rfl
    · have e : ((b : Int) == 0) = false := by simpa using h
      simp only [e, Bool.not_false]
      simp [h]
  · have h1 : (0 : Int) < b := by omega
    have e : ((a : Int) % (b : Int)) = ((a % b : Nat) : Int) := rfl
    simp only [y0_greatest_divisor, s2_greatest_divisor, x1_greatest_divisor, exB, evE, evL, tstE, M.bnd, opt_some, bnd_ret, opt_bnd, mapO, List.length_cons, List.length_nil, List.map_cons, List.map_nil, List.replicate, List.getElem?_cons_zero, List.getElem?_cons_succ, List.cons_append, List.nil_append, if_true, if_false, Bool.false_eq_true, Nat.sub_self, Bool.true_and, Bool.and_true, Bool.false_and, Bool.and_false, Bool.not_true, Bool.not_false, Bool.or_false, Bool.false_or, Bool.true_or, Bool.or_true, decide_true, decide_false, Option.map_some, permD, setW, List.set_cons_zero, List.set_cons_succ, bindP, bindPs, v_rd, v_dat, v_non, v_bl, v_int, v_lst, v_tup, v_str, v_add, v_sub, v_mul, v_fdiv, v_mod, v_cat, v_app, v_neg, v_lt, v_le, v_gt, v_ge, v_eq, v_isN, v_notN, v_in, v_nin, v_inS, v_eqI, v_eqS, v_neI, v_neS, v_lenS, v_lenL, v_lenT, v_repr, v_intI, v_intB, v_abs, v_ty_int_non, v_ty_int_bl, v_ty_int_int, v_ty_int_str, v_ty_int_lst, v_ty_int_tup, v_ty_int_dct, v_ty_bool_non, v_ty_bool_bl, v_ty_bool_int, v_ty_bool_str, v_ty_bool_lst, v_ty_bool_tup, v_ty_bool_dct, v_ty_str_non, v_ty_str_bl, v_ty_str_int, v_ty_str_str, v_ty_str_lst, v_ty_str_tup, v_ty_str_dct, v_ty_list_non, v_ty_list_bl, v_ty_list_int, v_ty_list_str, v_ty_list_lst, v_ty_list_tup, v_ty_list_dct, v_ty_tuple_non, v_ty_tuple_bl, v_ty_tuple_int, v_ty_tuple_str, v_ty_tuple_lst, v_ty_tuple_tup, v_ty_tuple_dct, v_ty_dict_non, v_ty_dict_bl, v_ty_dict_int, v_ty_dict_str, v_ty_dict_lst, v_ty_dict_tup, v_ty_dict_dct, v_isN_non, v_isN_int, v_isN_bl, v_isN_str, v_sliS, v_sliL, v_sliT, v_optN, v_optI, v_meT, v_join, v_walL, v_walT, v_walS, v_rng1, v_rng2, v_enum, v_zip, v_fewF, v_any1, v_any2, Nat.zero_add, Nat.reduceAdd, Nat.reduceLT, Nat.reduceLeDiff, Nat.reduceSub, Nat.reduceEqDiff, le_lim, h1, e]
theorem gcdF_take {r : List Int} {i : Nat} {p : Int} (h : r[i]? = some p) : BA.gcdF 0 (r.take (i + 1)) = Nat.gcd (BA.gcdF 0 (r.take i)) p.natAbs := by
  have hi := (List.getElem?_eq_some_iff.mp h).1
  have e := (List.getElem?_eq_some_iff.mp h).2
  rw [← List.take_append_getElem hi, e]
  unfold BA.gcdF
  rw [List.foldl_append]
  rfl
theorem gd_s5 {C : Calls} {r : List Int} (h : Sm 8000 r) : ∃ a2 a3 a4, exB C s5_greatest_divisor [some (.d (dR r)), some (.d (.int 0)), none, none, none] [] = .ret (.nx, [some (.d (dR r)), some (.d (.int (BA.gcdL r))), a2, a3, a4], []) := by
  unfold s5_greatest_divisor
  obtain ⟨env2, S2, e, rfl, a2, a3, a4, rfl⟩ := ex_for (C := C) (chk := false) (pt := .name 2) (k := .val) (src := .cons (.var 0) .nil) (body := y1_greatest_divisor)
    (env := [some (.d (dR r)), some (.d (.int 0)), none, none, none]) (S := []) (I := fun k env S => S = [] ∧ ∃ a2 a3 a4, env = [some (.d (dR r)), some (.d (.int (BA.gcdF 0 (r.take k)))), a2, a3, a4])
    (ws := [.d (dR r)]) (S1 := []) (ds := [dR r]) (its := r.map .int) (by simp only [exB, evE, evL, tstE, M.bnd, opt_some, bnd_ret, opt_bnd, mapO, List.length_cons, List.length_nil, List.map_cons, List.map_nil, List.replicate, List.getElem?_cons_zero, List.getElem?_cons_succ, List.cons_append, List.nil_append, if_true, if_false, Bool.false_eq_true, Nat.sub_self, Bool.true_and, Bool.and_true, Bool.false_and, Bool.and_false, Bool.not_true, Bool.not_false, Bool.or_false, Bool.false_or, Bool.true_or, Bool.or_true, decide_true, decide_false, Option.map_some, permD, setW, List.set_cons_zero, List.set_cons_succ, bindP, bindPs, v_rd, v_dat, v_non, v_bl, v_int, v_lst, v_tup, v_str, v_add, v_sub, v_mul, v_fdiv, v_mod, v_cat, v_app, v_neg, v_lt, v_le, v_gt, v_ge, v_eq, v_isN, v_notN, v_in, v_nin, v_inS, v_eqI, v_eqS, v_neI, v_neS, v_lenS, v_lenL, v_lenT, v_repr, v_intI, v_intB, v_abs, v_ty_int_non, v_ty_int_bl, v_ty_int_int, v_ty_int_str, v_ty_int_lst, v_ty_int_tup, v_ty_int_dct, v_ty_bool_non, v_ty_bool_bl, v_ty_bool_int, v_ty_bool_str, v_ty_bool_lst, v_ty_bool_tup, v_ty_bool_dct, v_ty_str_non, v_ty_str_bl, v_ty_str_int, v_ty_str_str, v_ty_str_lst, v_ty_str_tup, v_ty_str_dct, v_ty_list_non, v_ty_list_bl, v_ty_list_int, v_ty_list_str, v_ty_list_lst, v_ty_list_tup, v_ty_list_dct, v_ty_tuple_non, v_ty_tuple_bl, v_ty_tuple_int, v_ty_tuple_str, v_ty_tuple_lst, v_ty_tuple_tup, v_ty_tuple_dct, v_ty_dict_non, v_ty_dict_bl, v_ty_dict_int, v_ty_dict_str, v_ty_dict_lst, v_ty_dict_tup, v_ty_dict_dct, v_isN_non, v_isN_int, v_isN_bl, v_isN_str, v_sliS, v_sliL, v_sliT, v_optN, v_optI, v_meT, v_join, v_walL, v_walT, v_walS, v_rng1, v_rng2, v_enum, v_zip, v_fewF, v_any1, v_any2, Nat.zero_add, Nat.reduceAdd, Nat.reduceLT, Nat.reduceLeDiff, Nat.reduceSub, Nat.reduceEqDiff, le_lim]) rfl rfl rfl ⟨rfl, none, none, none, rfl⟩ (fun i d hd env S hI => by
      obtain ⟨hS, a2, a3, a4, he⟩ := hI
      subst hS he
      obtain ⟨p, hp, rfl⟩ := getElem?_map_some hd
      refine ⟨[some (.d (dR r)), some (.d (.int (BA.gcdF 0 (r.take i)))), some (.d (.int p)), a3, a4], [some (.d (dR r)), some (.d (.int (BA.gcdF 0 (r.take (i + 1))))), some (.d (.int p)), some (.d (.int (BA.gcdF 0 (r.take (i + 1))))), some (.d (.int 0))], [], by simp only [exB, evE, evL, tstE, M.bnd, opt_some, bnd_ret, opt_bnd, mapO, List.length_cons, List.length_nil, List.map_cons, List.map_nil, List.replicate, List.getElem?_cons_zero, List.getElem?_cons_succ, List.cons_append, List.nil_append, if_true, if_false, Bool.false_eq_true, Nat.sub_self, Bool.true_and, Bool.and_true, Bool.false_and, Bool.and_false, Bool.not_true, Bool.not_false, Bool.or_false, Bool.false_or, Bool.true_or, Bool.or_true, decide_true, decide_false, Option.map_some, permD, setW, List.set_cons_zero, List.set_cons_succ, bindP, bindPs, v_rd, v_dat, v_non, v_bl, v_int, v_lst, v_tup, v_str, v_add, v_sub, v_mul, v_fdiv, v_mod, v_cat, v_app, v_neg, v_lt, v_le, v_gt, v_ge, v_eq, v_isN, v_notN, v_in, v_nin, v_inS, v_eqI, v_eqS, v_neI, v_neS, v_lenS, v_lenL, v_lenT, v_repr, v_intI, v_intB, v_abs, v_ty_int_non, v_ty_int_bl, v_ty_int_int, v_ty_int_str, v_ty_int_lst, v_ty_int_tup, v_ty_int_dct, v_ty_bool_non, v_ty_bool_bl, v_ty_bool_int, v_ty_bool_str, v_ty_bool_lst, v_ty_bool_tup, v_ty_bool_dct, v_ty_str_non, v_ty_str_bl, v_ty_str_int, v_ty_str_str, v_ty_str_lst, v_ty_str_tup, v_ty_str_dct, v_ty_list_non, v_ty_list_bl, v_ty_list_int, v_ty_list_str, v_ty_list_lst, v_ty_list_tup, v_ty_list_dct, v_ty_tuple_non, v_ty_tuple_bl, v_ty_tuple_int, v_ty_tuple_str, v_ty_tuple_lst, v_ty_tuple_tup, v_ty_tuple_dct, v_ty_dict_non, v_ty_dict_bl, v_ty_dict_int, v_ty_dict_str, v_ty_dict_lst, v_ty_dict_tup, v_ty_dict_dct, v_isN_non, v_isN_int, v_isN_bl, v_isN_str, v_sliS, v_sliL, v_sliT, v_optN, v_optI, v_meT, v_join, v_walL, v_walT, v_walS, v_rng1, v_rng2, v_enum, v_zip, v_fewF, v_any1, v_any2, Nat.zero_add, Nat.reduceAdd, Nat.reduceLT, Nat.reduceLeDiff, Nat.reduceSub, Nat.reduceEqDiff, le_lim], ?_, rfl, _, _, _, rfl⟩
      unfold y1_greatest_divisor
      rw [sq (s := s1_greatest_divisor) (env' := [some (.d (dR r)), some (.d (.int (BA.gcdF 0 (r.take i)))), some (.d (.int p)), some (.d (.int (BA.gcdF 0 (r.take i)))), some (.d (.int p.natAbs))]) (S' := []) (by simp only [s1_greatest_divisor, x0_greatest_divisor, exB, evE, evL, tstE, M.bnd, opt_some, bnd_ret, opt_bnd, mapO, List.length_cons, List.length_nil, List.map_cons, List.map_nil, List.replicate, List.getElem?_cons_zero, List.getElem?_cons_succ, List.cons_append, List.nil_append, if_true, if_false, Bool.false_eq_true, Nat.sub_self, Bool.true_and, Bool.and_true, Bool.false_and, Bool.and_false, Bool.not_true, Bool.not_false, Bool.or_false, Bool.false_or, Bool.true_or, Bool.or_true, decide_true, decide_false, Option.map_some, permD, setW, List.set_cons_zero, List.set_cons_succ, bindP, bindPs, v_rd, v_dat, v_non, v_bl, v_int, v_lst, v_tup, v_str, v_add, v_sub, v_mul, v_fdiv, v_mod, v_cat, v_app, v_neg, v_lt, v_le, v_gt, v_ge, v_eq, v_isN, v_notN, v_in, v_nin, v_inS, v_eqI, v_eqS, v_neI, v_neS, v_lenS, v_lenL, v_lenT, v_repr, v_intI, v_intB, v_abs, v_ty_int_non, v_ty_int_bl, v_ty_int_int, v_ty_int_str, v_ty_int_lst, v_ty_int_tup, v_ty_int_dct, v_ty_bool_non, v_ty_bool_bl, v_ty_bool_int, v_ty_bool_str, v_ty_bool_lst, v_ty_bool_tup, v_ty_bool_dct, v_ty_str_non, v_ty_str_bl, v_ty_str_int, v_ty_str_str, v_ty_str_lst, v_ty_str_tup, v_ty_str_dct, v_ty_list_non, v_ty_list_bl, v_ty_list_int, v_ty_list_str, v_ty_list_lst, v_ty_list_tup, v_ty_list_dct, v_ty_tuple_non, v_ty_tuple_bl, v_ty_tuple_int, v_ty_tuple_str, v_ty_tuple_lst, v_ty_tuple_tup, v_ty_tuple_dct, v_ty_dict_non, v_ty_dict_bl, v_ty_dict_int, v_ty_dict_str, v_ty_dict_lst, v_ty_dict_tup, v_ty_dict_dct, v_isN_non, v_isN_int, v_isN_bl, v_isN_str, v_sliS, v_sliL, v_sliT, v_optN, v_optI, v_meT, v_join, v_walL, v_walT, v_walS, v_rng1, v_rng2, v_enum, v_zip, v_fewF, v_any1, v_any2, Nat.zero_add, Nat.reduceAdd, Nat.reduceLT, Nat.reduceLeDiff, Nat.reduceSub, Nat.reduceEqDiff, le_lim])]
      rw [sq (gd_s3 _ _ (h p (List.mem_of_getElem? hp)))]
      refine sq1 ?_
      simp only [s4_greatest_divisor, exB, evE, evL, tstE, M.bnd, opt_some, bnd_ret, opt_bnd, mapO, List.length_cons, List.length_nil, List.map_cons, List.map_nil, List.replicate, List.getElem?_cons_zero, List.getElem?_cons_succ, List.cons_append, List.nil_append, if_true, if_false, Bool.false_eq_true, Nat.sub_self, Bool.true_and, Bool.and_true, Bool.false_and, Bool.and_false, Bool.not_true, Bool.not_false, Bool.or_false, Bool.false_or, Bool.true_or, Bool.or_true, decide_true, decide_false, Option.map_some, permD, setW, List.set_cons_zero, List.set_cons_succ, bindP, bindPs, v_rd, v_dat, v_non, v_bl, v_int, v_lst, v_tup, v_str, v_add, v_sub, v_mul, v_fdiv, v_mod, v_cat, v_app, v_neg, v_lt, v_le, v_gt, v_ge, v_eq, v_isN, v_notN, v_in, v_nin, v_inS, v_eqI, v_eqS, v_neI, v_neS, v_lenS, v_lenL, v_lenT, v_repr, v_intI, v_intB, v_abs, v_ty_int_non, v_ty_int_bl, v_ty_int_int, v_ty_int_str, v_ty_int_lst, v_ty_int_tup, v_ty_int_dct, v_ty_bool_non, v_ty_bool_bl, v_ty_bool_int, v_ty_bool_str, v_ty_bool_lst, v_ty_bool_tup, v_ty_bool_dct, v_ty_str_non, v_ty_str_bl, v_ty_str_int, v_ty_str_str, v_ty_str_lst, v_ty_str_tup, v_ty_str_dct, v_ty_list_non, v_ty_list_bl, v_ty_list_int, v_ty_list_str, v_ty_list_lst, v_ty_list_tup, v_ty_list_dct, v_ty_tuple_non, v_ty_tuple_bl, v_ty_tuple_int, v_ty_tuple_str, v_ty_tuple_lst, v_ty_tuple_tup, v_ty_tuple_dct, v_ty_dict_non, v_ty_dict_bl, v_ty_dict_int, v_ty_dict_str, v_ty_dict_lst, v_ty_dict_tup, v_ty_dict_dct, v_isN_non, v_isN_int, v_isN_bl, v_isN_str, v_sliS, v_sliL, v_sliT, v_optN, v_optI, v_meT, v_join, v_walL, v_walT, v_walS, v_rng1, v_rng2, v_enum, v_zip, v_fewF, v_any1, v_any2, Nat.zero_add, Nat.reduceAdd, Nat.reduceLT, Nat.reduceLeDiff, Nat.reduceSub, Nat.reduceEqDiff, le_lim, gcdF_take hp])
  rw [List.length_map, List.take_length] at e
  exact ⟨a2, a3, a4, e⟩
theorem r_gd (n : Nat) {r : List Int} (h : Sm 8000 r) : dcall (run tbl.T (n + 1)) 0 [dR r] = .ret (.int (BA.gcdL r)) := by
  obtain ⟨a2, a3, a4, e⟩ := gd_s5 (C := run tbl.T n) h
  refine fn_ret T0 rfl (env := [some (.d (dR r)), some (.d (.int (BA.gcdL r))), a2, a3, a4]) (S := []) ?_
  show exB _ b_greatest_divisor [some (.d (dR r)), none, none, none, none] [] = _
  unfold b_greatest_divisor
  rw [sq (s := s0_greatest_divisor) (env' := [some (.d (dR r)), some (.d (.int 0)), none, none, none]) (S' := []) (by simp only [s0_greatest_divisor, exB, evE, evL, tstE, M.bnd, opt_some, bnd_ret, opt_bnd, mapO, List.length_cons, List.length_nil, List.map_cons, List.map_nil, List.replicate, List.getElem?_cons_zero, List.getElem?_cons_succ, List.cons_append, List.nil_append, if_true, if_false, Bool.false_eq_true, Nat.sub_self, Bool.true_and, Bool.and_true, Bool.false_and, Bool.and_false, Bool.not_true, Bool.not_false, Bool.or_false, Bool.false_or, Bool.true_or, Bool.or_true, decide_true, decide_false, Option.map_some, permD, setW, List.set_cons_zero, List.set_cons_succ, bindP, bindPs, v_rd, v_dat, v_non, v_bl, v_int, v_lst, v_tup, v_str, v_add, v_sub, v_mul, v_fdiv, v_mod, v_cat, v_app, v_neg, v_lt, v_le, v_gt, v_ge, v_eq, v_isN, v_notN, v_in, v_nin, v_inS, v_eqI, v_eqS, v_neI, v_neS, v_lenS, v_lenL, v_lenT, v_repr, v_intI, v_intB, v_abs, v_ty_int_non, v_ty_int_bl, v_ty_int_int, v_ty_int_str, v_ty_int_lst, v_ty_int_tup, v_ty_int_dct, v_ty_bool_non, v_ty_bool_bl, v_ty_bool_int, v_ty_bool_str, v_ty_bool_lst, v_ty_bool_tup, v_ty_bool_dct, v_ty_str_non, v_ty_str_bl, v_ty_str_int, v_ty_str_str, v_ty_str_lst, v_ty_str_tup, v_ty_str_dct, v_ty_list_non, v_ty_list_bl, v_ty_list_int, v_ty_list_str, v_ty_list_lst, v_ty_list_tup, v_ty_list_dct, v_ty_tuple_non, v_ty_tuple_bl, v_ty_tuple_int, v_ty_tuple_str, v_ty_tuple_lst, v_ty_tuple_tup, v_ty_tuple_dct, v_ty_dict_non, v_ty_dict_bl, v_ty_dict_int, v_ty_dict_str, v_ty_dict_lst, v_ty_dict_tup, v_ty_dict_dct, v_isN_non, v_isN_int, v_isN_bl, v_isN_str, v_sliS, v_sliL, v_sliT, v_optN, v_optI, v_meT, v_join, v_walL, v_walT, v_walS, v_rng1, v_rng2, v_enum, v_zip, v_fewF, v_any1, v_any2, Nat.zero_add, Nat.reduceAdd, Nat.reduceLT, Nat.reduceLeDiff, Nat.reduceSub, Nat.reduceEqDiff, le_lim]), sq e]
  refine sqR ?_
  simp only [s6_greatest_divisor, exB, evE, evL, tstE, M.bnd, opt_some, bnd_ret, opt_bnd, mapO, List.length_cons, List.length_nil, List.map_cons, List.map_nil, List.replicate, List.getElem?_cons_zero, List.getElem?_cons_succ, List.cons_append, List.nil_append, if_true, if_false, Bool.false_eq_true, Nat.sub_self, Bool.true_and, Bool.and_true, Bool.false_and, Bool.and_false, Bool.not_true, Bool.not_false, Bool.or_false, Bool.false_or, Bool.true_or, Bool.or_true, decide_true, decide_false, Option.map_some, permD, setW, List.set_cons_zero, List.set_cons_succ, bindP, bindPs, v_rd, v_dat, v_non, v_bl, v_int, v_lst, v_tup, v_str, v_add, v_sub, v_mul, v_fdiv, v_mod, v_cat, v_app, v_neg, v_lt, v_le, v_gt, v_ge, v_eq, v_isN, v_notN, v_in, v_nin, v_inS, v_eqI, v_eqS, v_neI, v_neS, v_lenS, v_lenL, v_lenT, v_repr, v_intI, v_intB, v_abs, v_ty_int_non, v_ty_int_bl, v_ty_int_int, v_ty_int_str, v_ty_int_lst, v_ty_int_tup, v_ty_int_dct, v_ty_bool_non, v_ty_bool_bl, v_ty_bool_int, v_ty_bool_str, v_ty_bool_lst, v_ty_bool_tup, v_ty_bool_dct, v_ty_str_non, v_ty_str_bl, v_ty_str_int, v_ty_str_str, v_ty_str_lst, v_ty_str_tup, v_ty_str_dct, v_ty_list_non, v_ty_list_bl, v_ty_list_int, v_ty_list_str, v_ty_list_lst, v_ty_list_tup, v_ty_list_dct, v_ty_tuple_non, v_ty_tuple_bl, v_ty_tuple_int, v_ty_tuple_str, v_ty_tuple_lst, v_ty_tuple_tup, v_ty_tuple_dct, v_ty_dict_non, v_ty_dict_bl, v_ty_dict_int, v_ty_dict_str, v_ty_dict_lst, v_ty_dict_tup, v_ty_dict_dct, v_isN_non, v_isN_int, v_isN_bl, v_isN_str, v_sliS, v_sliL, v_sliT, v_optN, v_optI, v_meT, v_join, v_walL, v_walT, v_walS, v_rng1, v_rng2, v_enum, v_zip, v_fewF, v_any1, v_any2, Nat.zero_add, Nat.reduceAdd, Nat.reduceLT, Nat.reduceLeDiff, Nat.reduceSub, Nat.reduceEqDiff, le_lim]
/-! sizes -/
theorem lg {b : Nat} {p : Int} (h : p.natAbs < 2 ^ b) (h0 : 0 < b) : p.natAbs.log2 < b := PySem.Flt.log2_lt_of h0 h
theorem mulok {b : Nat} {p q : Int} (hp : p.natAbs < 2 ^ b) (hq : q.natAbs < 2 ^ b) (h0 : 0 < b) (h1 : b ≤ 9000) : isIntOk p q = true := by
  have h1 := lg hp h0
  have h2 := lg hq h0
  unfold isIntOk
  rw [Bool.or_eq_true, Bool.or_eq_true]
  exact .inr (decide_eq_true (by omega))
theorem gcdF_sm {b : Nat} : ∀ {r : List Int} {g : Nat}, g < 2 ^ b → Sm b r → BA.gcdF g r < 2 ^ b
  | [], g, hg, _ => hg
  | p :: r, g, hg, h => by
    have hp := h p (List.mem_cons_self ..)
    refine gcdF_sm (r := r) ?_ fun q hq => h q (List.mem_cons_of_mem _ hq)
    by_cases h0 : g = 0
    · subst h0
      show Nat.gcd 0 p.natAbs < _
      rw [Nat.gcd_zero_left]
      exact hp
    · exact Nat.lt_of_le_of_lt (Nat.gcd_le_left _ (by omega)) hg
theorem gcd_sm {b : Nat} {r : List Int} (h : Sm b r) : BA.gcdL r < 2 ^ b := gcdF_sm (Nat.two_pow_pos b) h
theorem map_dR (f : Int → Int) (r : List Int) : (r.map fun p => D.int (f p)) = (r.map f).map D.int := by rw [List.map_map]; rfl
theorem r_shr (n : Nat) {r : List Int} (h : Sm 8000 r) (hl : r.length ≤ 1000) : dcall (run tbl.T (n + 2)) 1 [dR r] = .ret (dR (BA.shr r)) := by
  refine fn_ret T1 rfl (env := [some (.d (dR r)), some (.d (.int (BA.gcdL r))), none]) (S := []) ?_
  show exB _ b_shrunk [some (.d (dR r)), none, none] [] = _
  unfold b_shrunk
  have hg := r_gd n h
  rw [sq (s := s0_shrunk) (env' := [some (.d (dR r)), some (.d (.int (BA.gcdL r))), none]) (S' := []) (by simp only [s0_shrunk, exB, evE, evL, tstE, M.bnd, opt_some, bnd_ret, opt_bnd, mapO, List.length_cons, List.length_nil, List.map_cons, List.map_nil, List.replicate, List.getElem?_cons_zero, List.getElem?_cons_succ, List.cons_append, List.nil_append, if_true, if_false, Bool.false_eq_true, Nat.sub_self, Bool.true_and, Bool.and_true, Bool.false_and, Bool.and_false, Bool.not_true, Bool.not_false, Bool.or_false, Bool.false_or, Bool.true_or, Bool.or_true, decide_true, decide_false, Option.map_some, permD, setW, List.set_cons_zero, List.set_cons_succ, bindP, bindPs, v_rd, v_dat, v_non, v_bl, v_int, v_lst, v_tup, v_str, v_add, v_sub, v_mul, v_fdiv, v_mod, v_cat, v_app, v_neg, v_lt, v_le, v_gt, v_ge, v_eq, v_isN, v_notN, v_in, v_nin, v_inS, v_eqI, v_eqS, v_neI, v_neS, v_lenS, v_lenL, v_lenT, v_repr, v_intI, v_intB, v_abs, v_ty_int_non, v_ty_int_bl, v_ty_int_int, v_ty_int_str, v_ty_int_lst, v_ty_int_tup, v_ty_int_dct, v_ty_bool_non, v_ty_bool_bl, v_ty_bool_int, v_ty_bool_str, v_ty_bool_lst, v_ty_bool_tup, v_ty_bool_dct, v_ty_str_non, v_ty_str_bl, v_ty_str_int, v_ty_str_str, v_ty_str_lst, v_ty_str_tup, v_ty_str_dct, v_ty_list_non, v_ty_list_bl, v_ty_list_int, v_ty_list_str, v_ty_list_lst, v_ty_list_tup, v_ty_list_dct, v_ty_tuple_non, v_ty_tuple_bl, v_ty_tuple_int, v_ty_tuple_str, v_ty_tuple_lst, v_ty_tuple_tup, v_ty_tuple_dct, v_ty_dict_non, v_ty_dict_bl, v_ty_dict_int, v_ty_dict_str, v_ty_dict_lst, v_ty_dict_tup, v_ty_dict_dct, v_isN_non, v_isN_int, v_isN_bl, v_isN_str, v_sliS, v_sliL, v_sliT, v_optN, v_optI, v_meT, v_join, v_walL, v_walT, v_walS, v_rng1, v_rng2, v_enum, v_zip, v_fewF, v_any1, v_any2, Nat.zero_add, Nat.reduceAdd, Nat.reduceLT, Nat.reduceLeDiff, Nat.reduceSub, Nat.reduceEqDiff, le_lim, hg])]
  refine sqR ?_
  by_cases h0 : BA.gcdL r = 0
  · have e : BA.shr r = r := by unfold BA.shr; rw [if_pos h0]
    rw [e]
    simp only [s1_shrunk, x0_shrunk, exB, evE, evL, tstE, M.bnd, opt_some, bnd_ret, opt_bnd, mapO, List.length_cons, List.length_nil, List.map_cons, List.map_nil, List.replicate, List.getElem?_cons_zero, List.getElem?_cons_succ, List.cons_append, List.nil_append, if_true, if_false, Bool.false_eq_true, Nat.sub_self, Bool.true_and, Bool.and_true, Bool.false_and, Bool.and_false, Bool.not_true, Bool.not_false, Bool.or_false, Bool.false_or, Bool.true_or, Bool.or_true, decide_true, decide_false, Option.map_some, permD, setW, List.set_cons_zero, List.set_cons_succ, bindP, bindPs, v_rd, v_dat, v_non, v_bl, v_int, v_lst, v_tup, v_str, v_add, v_sub, v_mul, v_fdiv, v_mod, v_cat, v_app, v_neg, v_lt, v_le, v_gt, v_ge, v_eq, v_isN, v_notN, v_in, v_nin, v_inS, v_eqI, v_eqS, v_neI, v_neS, v_lenS, v_lenL, v_lenT, v_repr, v_intI, v_intB, v_abs, v_ty_int_non, v_ty_int_bl, v_ty_int_int, v_ty_int_str, v_ty_int_lst, v_ty_int_tup, v_ty_int_dct, v_ty_bool_non, v_ty_bool_bl, v_ty_bool_int, v_ty_bool_str, v_ty_bool_lst, v_ty_bool_tup, v_ty_bool_dct, v_ty_str_non, v_ty_str_bl, v_ty_str_int, v_ty_str_str, v_ty_str_lst, v_ty_str_tup, v_ty_str_dct, v_ty_list_non, v_ty_list_bl, v_ty_list_int, v_ty_list_str, v_ty_list_lst, v_ty_list_tup, v_ty_list_dct, v_ty_tuple_non, v_ty_tuple_bl, v_ty_tuple_int, v_ty_tuple_str, v_ty_tuple_lst, v_ty_tuple_tup, v_ty_tuple_dct, v_ty_dict_non, v_ty_dict_bl, v_ty_dict_int, v_ty_dict_str, v_ty_dict_lst, v_ty_dict_tup, v_ty_dict_dct, v_isN_non, v_isN_int, v_isN_bl, v_isN_str, v_sliS, v_sliL, v_sliT, v_optN, v_optI, v_meT, v_join, v_walL, v_walT, v_walS, v_rng1, v_rng2, v_enum, v_zip, v_fewF, v_any1, v_any2, Nat.zero_add, Nat.reduceAdd, Nat.reduceLT, Nat.reduceLeDiff, Nat.reduceSub, Nat.reduceEqDiff, le_lim, h0]
    rfl
  · have e0 : ((BA.gcdL r : Int) == 0) = false := by simpa using h0
    have hb := gcd_sm h
    have l9 : ((BA.gcdL r : Int)).natAbs.log2 < 9000 := Nat.lt_of_lt_of_le (lg (b := 8000) (by simpa using hb) (by decide)) (by decide)
    have n0 : (BA.gcdL r : Int) ≠ 0 := by omega
    have hk : evE (run tbl.T (n + 1)) k0_shrunk [some (.d (dR r)), some (.d (.int (BA.gcdL r))), none] [] = .ret (.d (dR (BA.shr r)), []) := by
      have q := ev_of (C := run tbl.T (n + 1)) (m := false) (chk := false) (pt := .name 2) (k := .val) (src := .cons (.var 0) .nil) (cond := .dat (.bl true)) (elt := .bin .fdiv (.var 2) (.var 1)) (env := [some (.d (dR r)), some (.d (.int (BA.gcdL r))), none]) (S := []) (S1 := []) (ws := [.d (dR r)]) (ds := [dR r]) r D.int (fun p => some (D.int (p.fdiv (BA.gcdL r)))) (by simp only [exB, evE, evL, tstE, M.bnd, opt_some, bnd_ret, opt_bnd, mapO, List.length_cons, List.length_nil, List.map_cons, List.map_nil, List.replicate, List.getElem?_cons_zero, List.getElem?_cons_succ, List.cons_append, List.nil_append, if_true, if_false, Bool.false_eq_true, Nat.sub_self, Bool.true_and, Bool.and_true, Bool.false_and, Bool.and_false, Bool.not_true, Bool.not_false, Bool.or_false, Bool.false_or, Bool.true_or, Bool.or_true, decide_true, decide_false, Option.map_some, permD, setW, List.set_cons_zero, List.set_cons_succ, bindP, bindPs, v_rd, v_dat, v_non, v_bl, v_int, v_lst, v_tup, v_str, v_add, v_sub, v_mul, v_fdiv, v_mod, v_cat, v_app, v_neg, v_lt, v_le, v_gt, v_ge, v_eq, v_isN, v_notN, v_in, v_nin, v_inS, v_eqI, v_eqS, v_neI, v_neS, v_lenS, v_lenL, v_lenT, v_repr, v_intI, v_intB, v_abs, v_ty_int_non, v_ty_int_bl, v_ty_int_int, v_ty_int_str, v_ty_int_lst, v_ty_int_tup, v_ty_int_dct, v_ty_bool_non, v_ty_bool_bl, v_ty_bool_int, v_ty_bool_str, v_ty_bool_lst, v_ty_bool_tup, v_ty_bool_dct, v_ty_str_non, v_ty_str_bl, v_ty_str_int, v_ty_str_str, v_ty_str_lst, v_ty_str_tup, v_ty_str_dct, v_ty_list_non, v_ty_list_bl, v_ty_list_int, v_ty_list_str, v_ty_list_lst, v_ty_list_tup, v_ty_list_dct, v_ty_tuple_non, v_ty_tuple_bl, v_ty_tuple_int, v_ty_tuple_str, v_ty_tuple_lst, v_ty_tuple_tup, v_ty_tuple_dct, v_ty_dict_non, v_ty_dict_bl, v_ty_dict_int, v_ty_dict_str, v_ty_dict_lst, v_ty_dict_tup, v_ty_dict_dct, v_isN_non, v_isN_int, v_isN_bl, v_isN_str, v_sliS, v_sliL, v_sliT, v_optN, v_optI, v_meT, v_join, v_walL, v_walT, v_walS, v_rng1, v_rng2, v_enum, v_zip, v_fewF, v_any1, v_any2, Nat.zero_add, Nat.reduceAdd, Nat.reduceLT, Nat.reduceLeDiff, Nat.reduceSub, Nat.reduceEqDiff, le_lim]) rfl rfl rfl (by unfold lim; omega) fun p hp => by
        refine ⟨_, by simp only [exB, evE, evL, tstE, M.bnd, opt_some, bnd_ret, opt_bnd, mapO, List.length_cons, List.length_nil, List.map_cons, List.map_nil, List.replicate, List.getElem?_cons_zero, List.getElem?_cons_succ, List.cons_append, List.nil_append, if_true, if_false, Bool.false_eq_true, Nat.sub_self, Bool.true_and, Bool.and_true, Bool.false_and, Bool.and_false, Bool.not_true, Bool.not_false, Bool.or_false, Bool.false_or, Bool.true_or, Bool.or_true, decide_true, decide_false, Option.map_some, permD, setW, List.set_cons_zero, List.set_cons_succ, bindP, bindPs, v_rd, v_dat, v_non, v_bl, v_int, v_lst, v_tup, v_str, v_add, v_sub, v_mul, v_fdiv, v_mod, v_cat, v_app, v_neg, v_lt, v_le, v_gt, v_ge, v_eq, v_isN, v_notN, v_in, v_nin, v_inS, v_eqI, v_eqS, v_neI, v_neS, v_lenS, v_lenL, v_lenT, v_repr, v_intI, v_intB, v_abs, v_ty_int_non, v_ty_int_bl, v_ty_int_int, v_ty_int_str, v_ty_int_lst, v_ty_int_tup, v_ty_int_dct, v_ty_bool_non, v_ty_bool_bl, v_ty_bool_int, v_ty_bool_str, v_ty_bool_lst, v_ty_bool_tup, v_ty_bool_dct, v_ty_str_non, v_ty_str_bl, v_ty_str_int, v_ty_str_str, v_ty_str_lst, v_ty_str_tup, v_ty_str_dct, v_ty_list_non, v_ty_list_bl, v_ty_list_int, v_ty_list_str, v_ty_list_lst, v_ty_list_tup, v_ty_list_dct, v_ty_tuple_non, v_ty_tuple_bl, v_ty_tuple_int, v_ty_tuple_str, v_ty_tuple_lst, v_ty_tuple_tup, v_ty_tuple_dct, v_ty_dict_non, v_ty_dict_bl, v_ty_dict_int, v_ty_dict_str, v_ty_dict_lst, v_ty_dict_tup, v_ty_dict_dct, v_isN_non, v_isN_int, v_isN_bl, v_isN_str, v_sliS, v_sliL, v_sliT, v_optN, v_optI, v_meT, v_join, v_walL, v_walT, v_walS, v_rng1, v_rng2, v_enum, v_zip, v_fewF, v_any1, v_any2, Nat.zero_add, Nat.reduceAdd, Nat.reduceLT, Nat.reduceLeDiff, Nat.reduceSub, Nat.reduceEqDiff, le_lim]; rfl, el_yes ?_⟩
        simp only [exB, evE, evL, tstE, M.bnd, opt_some, bnd_ret, opt_bnd, mapO, List.length_cons, List.length_nil, List.map_cons, List.map_nil, List.replicate, List.getElem?_cons_zero, List.getElem?_cons_succ, List.cons_append, List.nil_append, if_true, if_false, Bool.false_eq_true, Nat.sub_self, Bool.true_and, Bool.and_true, Bool.false_and, Bool.and_false, Bool.not_true, Bool.not_false, Bool.or_false, Bool.false_or, Bool.true_or, Bool.or_true, decide_true, decide_false, Option.map_some, permD, setW, List.set_cons_zero, List.set_cons_succ, bindP, bindPs, v_rd, v_dat, v_non, v_bl, v_int, v_lst, v_tup, v_str, v_add, v_sub, v_mul, v_fdiv, v_mod, v_cat, v_app, v_neg, v_lt, v_le, v_gt, v_ge, v_eq, v_isN, v_notN, v_in, v_nin, v_inS, v_eqI, v_eqS, v_neI, v_neS, v_lenS, v_lenL, v_lenT, v_repr, v_intI, v_intB, v_abs, v_ty_int_non, v_ty_int_bl, v_ty_int_int, v_ty_int_str, v_ty_int_lst, v_ty_int_tup, v_ty_int_dct, v_ty_bool_non, v_ty_bool_bl, v_ty_bool_int, v_ty_bool_str, v_ty_bool_lst, v_ty_bool_tup, v_ty_bool_dct, v_ty_str_non, v_ty_str_bl, v_ty_str_int, v_ty_str_str, v_ty_str_lst, v_ty_str_tup, v_ty_str_dct, v_ty_list_non, v_ty_list_bl, v_ty_list_int, v_ty_list_str, v_ty_list_lst, v_ty_list_tup, v_ty_list_dct, v_ty_tuple_non, v_ty_tuple_bl, v_ty_tuple_int, v_ty_tuple_str, v_ty_tuple_lst, v_ty_tuple_tup, v_ty_tuple_dct, v_ty_dict_non, v_ty_dict_bl, v_ty_dict_int, v_ty_dict_str, v_ty_dict_lst, v_ty_dict_tup, v_ty_dict_dct, v_isN_non, v_isN_int, v_isN_bl, v_isN_str, v_sliS, v_sliL, v_sliT, v_optN, v_optI, v_meT, v_join, v_walL, v_walT, v_walS, v_rng1, v_rng2, v_enum, v_zip, v_fewF, v_any1, v_any2, Nat.zero_add, Nat.reduceAdd, Nat.reduceLT, Nat.reduceLeDiff, Nat.reduceSub, Nat.reduceEqDiff, le_lim, v_fdivZ, if_pos (And.intro n0 l9)]
      unfold k0_shrunk
      rw [q, fm_some, map_dR]
      unfold BA.shr
      rw [if_neg h0]
      rfl
    simp only [s1_shrunk, x0_shrunk, exB, evE, evL, tstE, M.bnd, opt_some, bnd_ret, opt_bnd, mapO, List.length_cons, List.length_nil, List.map_cons, List.map_nil, List.replicate, List.getElem?_cons_zero, List.getElem?_cons_succ, List.cons_append, List.nil_append, if_true, if_false, Bool.false_eq_true, Nat.sub_self, Bool.true_and, Bool.and_true, Bool.false_and, Bool.and_false, Bool.not_true, Bool.not_false, Bool.or_false, Bool.false_or, Bool.true_or, Bool.or_true, decide_true, decide_false, Option.map_some, permD, setW, List.set_cons_zero, List.set_cons_succ, bindP, bindPs, v_rd, v_dat, v_non, v_bl, v_int, v_lst, v_tup, v_str, v_add, v_sub, v_mul, v_fdiv, v_mod, v_cat, v_app, v_neg, v_lt, v_le, v_gt, v_ge, v_eq, v_isN, v_notN, v_in, v_nin, v_inS, v_eqI, v_eqS, v_neI, v_neS, v_lenS, v_lenL, v_lenT, v_repr, v_intI, v_intB, v_abs, v_ty_int_non, v_ty_int_bl, v_ty_int_int, v_ty_int_str, v_ty_int_lst, v_ty_int_tup, v_ty_int_dct, v_ty_bool_non, v_ty_bool_bl, v_ty_bool_int, v_ty_bool_str, v_ty_bool_lst, v_ty_bool_tup, v_ty_bool_dct, v_ty_str_non, v_ty_str_bl, v_ty_str_int, v_ty_str_str, v_ty_str_lst, v_ty_str_tup, v_ty_str_dct, v_ty_list_non, v_ty_list_bl, v_ty_list_int, v_ty_list_str, v_ty_list_lst, v_ty_list_tup, v_ty_list_dct, v_ty_tuple_non, v_ty_tuple_bl, v_ty_tuple_int, v_ty_tuple_str, v_ty_tuple_lst, v_ty_tuple_tup, v_ty_tuple_dct, v_ty_dict_non, v_ty_dict_bl, v_ty_dict_int, v_ty_dict_str, v_ty_dict_lst, v_ty_dict_tup, v_ty_dict_dct, v_isN_non, v_isN_int, v_isN_bl, v_isN_str, v_sliS, v_sliL, v_sliT, v_optN, v_optI, v_meT, v_join, v_walL, v_walT, v_walS, v_rng1, v_rng2, v_enum, v_zip, v_fewF, v_any1, v_any2, Nat.zero_add, Nat.reduceAdd, Nat.reduceLT, Nat.reduceLeDiff, Nat.reduceSub, Nat.reduceEqDiff, le_lim, e0, hk]
/-! one cell -/
theorem atI_cell {r : List Int} {x : Nat} (h : x < r.length) : subD (dR r) (.int x) = some (.int (BA.cell r x)) := by
  have e : L2.atI (r.map D.int) (x : Int) = some (.int (BA.cell r x)) := by
    unfold L2.atI
    rw [ixN_of (by omega) (by simp; omega)]
    show (r.map D.int)[x]? = _
    rw [List.getElem?_map, List.getElem?_eq_getElem h]
    unfold BA.cell
    rw [BA.getD_at h]
    rfl
  show (match L2.atI (r.map D.int) (x : Int) with | some d => some d | none => none) = _
  rw [e]
theorem zipWith_fst {α β γ : Type} (f : α → γ) : ∀ (a : List α) (b : List β), a.length = b.length → List.zipWith (fun x _ => f x) a b = a.map f
  | [], b, _ => by simp
  | x :: a, [], h => by cases h
  | x :: a, y :: b, h => by
    rw [List.zipWith_cons_cons, List.map_cons, zipWith_fst f a b (by simpa using h)]
theorem zip_zipWith {α β γ : Type} (f : α → β → γ) : ∀ (a : List α) (b : List β), (a.zip b).map (fun p => f p.1 p.2) = List.zipWith f a b
  | [], b => by simp
  | x :: a, [] => by simp
  | x :: a, y :: b => by simp [zip_zipWith f a b]
theorem r_clr (n : Nat) {row line : List Int} {c : Nat} {d : Int} {b : Nat} (hr : Sm b row) (hl : Sm b line) (hlen : row.length = line.length) (hc : c < row.length) (hd : d ≠ 0) (hdb : d.natAbs < 2 ^ b) (h0 : 0 < b) (h9 : b ≤ 9000) (hs : row.length ≤ 1000) :
    dcall (run tbl.T (n + 1)) 3 [dR row, dR line, .int c, .int d] = .ret (dR (BA.clr row line c d)) := by
  have pv : (BA.cell line c).natAbs < 2 ^ b := hl _ (by unfold BA.cell; rw [BA.getD_at (by omega)]; exact List.getElem_mem _)
  have tm : (BA.cell row c).natAbs < 2 ^ b := hr _ (by unfold BA.cell; rw [BA.getD_at hc]; exact List.getElem_mem _)
  have l9 : d.natAbs.log2 < 9000 := Nat.lt_of_lt_of_le (lg hdb h0) h9
  refine fn_ret T3 rfl (env := [some (.d (dR row)), some (.d (dR line)), some (.d (.int c)), some (.d (.int d)), some (.d (.int (BA.cell line c))), some (.d (.int (BA.cell row c))), none, none]) (S := []) ?_
  show exB _ b_cleared [some (.d (dR row)), some (.d (dR line)), some (.d (.int c)), some (.d (.int d)), none, none, none, none] [] = _
  unfold b_cleared
  rw [sq (s := s0_cleared) (env' := [some (.d (dR row)), some (.d (dR line)), some (.d (.int c)), some (.d (.int d)), some (.d (.int (BA.cell line c))), some (.d (.int (BA.cell row c))), none, none]) (S' := []) (by
    simp only [s0_cleared, x0_cleared, exB, evE, evL, tstE, M.bnd, opt_some, bnd_ret, opt_bnd, mapO, List.length_cons, List.length_nil, List.map_cons, List.map_nil, List.replicate, List.getElem?_cons_zero, List.getElem?_cons_succ, List.cons_append, List.nil_append, if_true, if_false, Bool.false_eq_true, Nat.sub_self, Bool.true_and, Bool.and_true, Bool.false_and, Bool.and_false, Bool.not_true, Bool.not_false, Bool.or_false, Bool.false_or, Bool.true_or, Bool.or_true, decide_true, decide_false, Option.map_some, permD, setW, List.set_cons_zero, List.set_cons_succ, bindP, bindPs, v_rd, v_dat, v_non, v_bl, v_int, v_lst, v_tup, v_str, v_add, v_sub, v_mul, v_fdiv, v_mod, v_cat, v_app, v_neg, v_lt, v_le, v_gt, v_ge, v_eq, v_isN, v_notN, v_in, v_nin, v_inS, v_eqI, v_eqS, v_neI, v_neS, v_lenS, v_lenL, v_lenT, v_repr, v_intI, v_intB, v_abs, v_ty_int_non, v_ty_int_bl, v_ty_int_int, v_ty_int_str, v_ty_int_lst, v_ty_int_tup, v_ty_int_dct, v_ty_bool_non, v_ty_bool_bl, v_ty_bool_int, v_ty_bool_str, v_ty_bool_lst, v_ty_bool_tup, v_ty_bool_dct, v_ty_str_non, v_ty_str_bl, v_ty_str_int, v_ty_str_str, v_ty_str_lst, v_ty_str_tup, v_ty_str_dct, v_ty_list_non, v_ty_list_bl, v_ty_list_int, v_ty_list_str, v_ty_list_lst, v_ty_list_tup, v_ty_list_dct, v_ty_tuple_non, v_ty_tuple_bl, v_ty_tuple_int, v_ty_tuple_str, v_ty_tuple_lst, v_ty_tuple_tup, v_ty_tuple_dct, v_ty_dict_non, v_ty_dict_bl, v_ty_dict_int, v_ty_dict_str, v_ty_dict_lst, v_ty_dict_tup, v_ty_dict_dct, v_isN_non, v_isN_int, v_isN_bl, v_isN_str, v_sliS, v_sliL, v_sliT, v_optN, v_optI, v_meT, v_join, v_walL, v_walT, v_walS, v_rng1, v_rng2, v_enum, v_zip, v_fewF, v_any1, v_any2, Nat.zero_add, Nat.reduceAdd, Nat.reduceLT, Nat.reduceLeDiff, Nat.reduceSub, Nat.reduceEqDiff, le_lim, atI_cell hc, atI_cell (show c < line.length by omega)])]
  by_cases ht : BA.cell row c = 0
  · refine sqR ?_
    have e0 : (BA.cell row c == 0) = true := by simpa using ht
    have hk : evE (run tbl.T n) k0_cleared [some (.d (dR row)), some (.d (dR line)), some (.d (.int c)), some (.d (.int d)), some (.d (.int (BA.cell line c))), some (.d (.int (BA.cell row c))), none, none] [] = .ret (.d (dR (BA.clr row line c d)), []) := by
      have q := ev_of (C := run tbl.T n) (m := false) (chk := false) (pt := .name 6) (k := .val) (src := .cons (.var 0) .nil) (cond := .dat (.bl true)) (elt := .ite (.cmp .ne (.var 6) (.dat (.int 0))) (.bin .fdiv (.bin .mul (.var 6) (.var 4)) (.var 3)) (.dat (.int 0))) (env := [some (.d (dR row)), some (.d (dR line)), some (.d (.int c)), some (.d (.int d)), some (.d (.int (BA.cell line c))), some (.d (.int (BA.cell row c))), none, none]) (S := []) (S1 := []) (ws := [.d (dR row)]) (ds := [dR row]) row D.int (fun p => some (D.int ((p * BA.cell line c).fdiv d))) (by simp only [exB, evE, evL, tstE, M.bnd, opt_some, bnd_ret, opt_bnd, mapO, List.length_cons, List.length_nil, List.map_cons, List.map_nil, List.replicate, List.getElem?_cons_zero, List.getElem?_cons_succ, List.cons_append, List.nil_append, if_true, if_false, Bool.false_eq_true, Nat.sub_self, Bool.true_and, Bool.and_true, Bool.false_and, Bool.and_false, Bool.not_true, Bool.not_false, Bool.or_false, Bool.false_or, Bool.true_or, Bool.or_true, decide_true, decide_false, Option.map_some, permD, setW, List.set_cons_zero, List.set_cons_succ, bindP, bindPs, v_rd, v_dat, v_non, v_bl, v_int, v_lst, v_tup, v_str, v_add, v_sub, v_mul, v_fdiv, v_mod, v_cat, v_app, v_neg, v_lt, v_le, v_gt, v_ge, v_eq, v_isN, v_notN, v_in, v_nin, v_inS, v_eqI, v_eqS, v_neI, v_neS, v_lenS, v_lenL, v_lenT, v_repr, v_intI, v_intB, v_abs, v_ty_int_non, v_ty_int_bl, v_ty_int_int, v_ty_int_str, v_ty_int_lst, v_ty_int_tup, v_ty_int_dct, v_ty_bool_non, v_ty_bool_bl, v_ty_bool_int, v_ty_bool_str, v_ty_bool_lst, v_ty_bool_tup, v_ty_bool_dct, v_ty_str_non, v_ty_str_bl, v_ty_str_int, v_ty_str_str, v_ty_str_lst, v_ty_str_tup, v_ty_str_dct, v_ty_list_non, v_ty_list_bl, v_ty_list_int, v_ty_list_str, v_ty_list_lst, v_ty_list_tup, v_ty_list_dct, v_ty_tuple_non, v_ty_tuple_bl, v_ty_tuple_int, v_ty_tuple_str, v_ty_tuple_lst, v_ty_tuple_tup, v_ty_tuple_dct, v_ty_dict_non, v_ty_dict_bl, v_ty_dict_int, v_ty_dict_str, v_ty_dict_lst, v_ty_dict_tup, v_ty_dict_dct, v_isN_non, v_isN_int, v_isN_bl, v_isN_str, v_sliS, v_sliL, v_sliT, v_optN, v_optI, v_meT, v_join, v_walL, v_walT, v_walS, v_rng1, v_rng2, v_enum, v_zip, v_fewF, v_any1, v_any2, Nat.zero_add, Nat.reduceAdd, Nat.reduceLT, Nat.reduceLeDiff, Nat.reduceSub, Nat.reduceEqDiff, le_lim]) rfl rfl rfl (by unfold lim; omega) fun p hp => by
        refine ⟨_, by simp only [exB, evE, evL, tstE, M.bnd, opt_some, bnd_ret, opt_bnd, mapO, List.length_cons, List.length_nil, List.map_cons, List.map_nil, List.replicate, List.getElem?_cons_zero, List.getElem?_cons_succ, List.cons_append, List.nil_append, if_true, if_false, Bool.false_eq_true, Nat.sub_self, Bool.true_and, Bool.and_true, Bool.false_and, Bool.and_false, Bool.not_true, Bool.not_false, Bool.or_false, Bool.false_or, Bool.true_or, Bool.or_true, decide_true, decide_false, Option.map_some, permD, setW, List.set_cons_zero, List.set_cons_succ, bindP, bindPs, v_rd, v_dat, v_non, v_bl, v_int, v_lst, v_tup, v_str, v_add, v_sub, v_mul, v_fdiv, v_mod, v_cat, v_app, v_neg, v_lt, v_le, v_gt, v_ge, v_eq, v_isN, v_notN, v_in, v_nin, v_inS, v_eqI, v_eqS, v_neI, v_neS, v_lenS, v_lenL, v_lenT, v_repr, v_intI, v_intB, v_abs, v_ty_int_non, v_ty_int_bl, v_ty_int_int, v_ty_int_str, v_ty_int_lst, v_ty_int_tup, v_ty_int_dct, v_ty_bool_non, v_ty_bool_bl, v_ty_bool_int, v_ty_bool_str, v_ty_bool_lst, v_ty_bool_tup, v_ty_bool_dct, v_ty_str_non, v_ty_str_bl, v_ty_str_int, v_ty_str_str, v_ty_str_lst, v_ty_str_tup, v_ty_str_dct, v_ty_list_non, v_ty_list_bl, v_ty_list_int, v_ty_list_str, v_ty_list_lst, v_ty_list_tup, v_ty_list_dct, v_ty_tuple_non, v_ty_tuple_bl, v_ty_tuple_int, v_ty_tuple_str, v_ty_tuple_lst, v_ty_tuple_tup, v_ty_tuple_dct, v_ty_dict_non, v_ty_dict_bl, v_ty_dict_int, v_ty_dict_str, v_ty_dict_lst, v_ty_dict_tup, v_ty_dict_dct, v_isN_non, v_isN_int, v_isN_bl, v_isN_str, v_sliS, v_sliL, v_sliT, v_optN, v_optI, v_meT, v_join, v_walL, v_walT, v_walS, v_rng1, v_rng2, v_enum, v_zip, v_fewF, v_any1, v_any2, Nat.zero_add, Nat.reduceAdd, Nat.reduceLT, Nat.reduceLeDiff, Nat.reduceSub, Nat.reduceEqDiff, le_lim]; rfl, el_yes ?_⟩
        by_cases hp0 : p = 0
        · subst hp0
          have e : ((0 : Int) * BA.cell line c).fdiv d = 0 := by rw [Int.zero_mul]; exact Int.zero_fdiv d
          simp only [exB, evE, evL, tstE, M.bnd, opt_some, bnd_ret, opt_bnd, mapO, List.length_cons, List.length_nil, List.map_cons, List.map_nil, List.replicate, List.getElem?_cons_zero, List.getElem?_cons_succ, List.cons_append, List.nil_append, if_true, if_false, Bool.false_eq_true, Nat.sub_self, Bool.true_and, Bool.and_true, Bool.false_and, Bool.and_false, Bool.not_true, Bool.not_false, Bool.or_false, Bool.false_or, Bool.true_or, Bool.or_true, decide_true, decide_false, Option.map_some, permD, setW, List.set_cons_zero, List.set_cons_succ, bindP, bindPs, v_rd, v_dat, v_non, v_bl, v_int, v_lst, v_tup, v_str, v_add, v_sub, v_mul, v_fdiv, v_mod, v_cat, v_app, v_neg, v_lt, v_le, v_gt, v_ge, v_eq, v_isN, v_notN, v_in, v_nin, v_inS, v_eqI, v_eqS, v_neI, v_neS, v_lenS, v_lenL, v_lenT, v_repr, v_intI, v_intB, v_abs, v_ty_int_non, v_ty_int_bl, v_ty_int_int, v_ty_int_str, v_ty_int_lst, v_ty_int_tup, v_ty_int_dct, v_ty_bool_non, v_ty_bool_bl, v_ty_bool_int, v_ty_bool_str, v_ty_bool_lst, v_ty_bool_tup, v_ty_bool_dct, v_ty_str_non, v_ty_str_bl, v_ty_str_int, v_ty_str_str, v_ty_str_lst, v_ty_str_tup, v_ty_str_dct, v_ty_list_non, v_ty_list_bl, v_ty_list_int, v_ty_list_str, v_ty_list_lst, v_ty_list_tup, v_ty_list_dct, v_ty_tuple_non, v_ty_tuple_bl, v_ty_tuple_int, v_ty_tuple_str, v_ty_tuple_lst, v_ty_tuple_tup, v_ty_tuple_dct, v_ty_dict_non, v_ty_dict_bl, v_ty_dict_int, v_ty_dict_str, v_ty_dict_lst, v_ty_dict_tup, v_ty_dict_dct, v_isN_non, v_isN_int, v_isN_bl, v_isN_str, v_sliS, v_sliL, v_sliT, v_optN, v_optI, v_meT, v_join, v_walL, v_walT, v_walS, v_rng1, v_rng2, v_enum, v_zip, v_fewF, v_any1, v_any2, Nat.zero_add, Nat.reduceAdd, Nat.reduceLT, Nat.reduceLeDiff, Nat.reduceSub, Nat.reduceEqDiff, le_lim, e]
          rfl
        · have e1 : (p == 0) = false := by simpa using hp0
          have e2 := mulok (hr p hp) pv h0 h9
          simp only [exB, evE, evL, tstE, M.bnd, opt_some, bnd_ret, opt_bnd, mapO, List.length_cons, List.length_nil, List.map_cons, List.map_nil, List.replicate, List.getElem?_cons_zero, List.getElem?_cons_succ, List.cons_append, List.nil_append, if_true, if_false, Bool.false_eq_true, Nat.sub_self, Bool.true_and, Bool.and_true, Bool.false_and, Bool.and_false, Bool.not_true, Bool.not_false, Bool.or_false, Bool.false_or, Bool.true_or, Bool.or_true, decide_true, decide_false, Option.map_some, permD, setW, List.set_cons_zero, List.set_cons_succ, bindP, bindPs, v_rd, v_dat, v_non, v_bl, v_int, v_lst, v_tup, v_str, v_add, v_sub, v_mul, v_fdiv, v_mod, v_cat, v_app, v_neg, v_lt, v_le, v_gt, v_ge, v_eq, v_isN, v_notN, v_in, v_nin, v_inS, v_eqI, v_eqS, v_neI, v_neS, v_lenS, v_lenL, v_lenT, v_repr, v_intI, v_intB, v_abs, v_ty_int_non, v_ty_int_bl, v_ty_int_int, v_ty_int_str, v_ty_int_lst, v_ty_int_tup, v_ty_int_dct, v_ty_bool_non, v_ty_bool_bl, v_ty_bool_int, v_ty_bool_str, v_ty_bool_lst, v_ty_bool_tup, v_ty_bool_dct, v_ty_str_non, v_ty_str_bl, v_ty_str_int, v_ty_str_str, v_ty_str_lst, v_ty_str_tup, v_ty_str_dct, v_ty_list_non, v_ty_list_bl, v_ty_list_int, v_ty_list_str, v_ty_list_lst, v_ty_list_tup, v_ty_list_dct, v_ty_tuple_non, v_ty_tuple_bl, v_ty_tuple_int, v_ty_tuple_str, v_ty_tuple_lst, v_ty_tuple_tup, v_ty_tuple_dct, v_ty_dict_non, v_ty_dict_bl, v_ty_dict_int, v_ty_dict_str, v_ty_dict_lst, v_ty_dict_tup, v_ty_dict_dct, v_isN_non, v_isN_int, v_isN_bl, v_isN_str, v_sliS, v_sliL, v_sliT, v_optN, v_optI, v_meT, v_join, v_walL, v_walT, v_walS, v_rng1, v_rng2, v_enum, v_zip, v_fewF, v_any1, v_any2, Nat.zero_add, Nat.reduceAdd, Nat.reduceLT, Nat.reduceLeDiff, Nat.reduceSub, Nat.reduceEqDiff, le_lim, e1, e2, v_fdivZ, if_pos (And.intro hd l9)]
      unfold k0_cleared
      rw [q, fm_some, map_dR]
      have e3 : BA.clr row line c d = row.map fun p => (p * BA.cell line c).fdiv d := by
        unfold BA.clr
        rw [ht, ← zipWith_fst _ row line hlen]
        congr 1
        funext p q
        rw [Int.zero_mul, Int.sub_zero]
      rw [e3]
      rfl
    rw [s2_cleared, ife_of (k := true) (by simp only [exB, evE, evL, tstE, M.bnd, opt_some, bnd_ret, opt_bnd, mapO, List.length_cons, List.length_nil, List.map_cons, List.map_nil, List.replicate, List.getElem?_cons_zero, List.getElem?_cons_succ, List.cons_append, List.nil_append, if_true, if_false, Bool.false_eq_true, Nat.sub_self, Bool.true_and, Bool.and_true, Bool.false_and, Bool.and_false, Bool.not_true, Bool.not_false, Bool.or_false, Bool.false_or, Bool.true_or, Bool.or_true, decide_true, decide_false, Option.map_some, permD, setW, List.set_cons_zero, List.set_cons_succ, bindP, bindPs, v_rd, v_dat, v_non, v_bl, v_int, v_lst, v_tup, v_str, v_add, v_sub, v_mul, v_fdiv, v_mod, v_cat, v_app, v_neg, v_lt, v_le, v_gt, v_ge, v_eq, v_isN, v_notN, v_in, v_nin, v_inS, v_eqI, v_eqS, v_neI, v_neS, v_lenS, v_lenL, v_lenT, v_repr, v_intI, v_intB, v_abs, v_ty_int_non, v_ty_int_bl, v_ty_int_int, v_ty_int_str, v_ty_int_lst, v_ty_int_tup, v_ty_int_dct, v_ty_bool_non, v_ty_bool_bl, v_ty_bool_int, v_ty_bool_str, v_ty_bool_lst, v_ty_bool_tup, v_ty_bool_dct, v_ty_str_non, v_ty_str_bl, v_ty_str_int, v_ty_str_str, v_ty_str_lst, v_ty_str_tup, v_ty_str_dct, v_ty_list_non, v_ty_list_bl, v_ty_list_int, v_ty_list_str, v_ty_list_lst, v_ty_list_tup, v_ty_list_dct, v_ty_tuple_non, v_ty_tuple_bl, v_ty_tuple_int, v_ty_tuple_str, v_ty_tuple_lst, v_ty_tuple_tup, v_ty_tuple_dct, v_ty_dict_non, v_ty_dict_bl, v_ty_dict_int, v_ty_dict_str, v_ty_dict_lst, v_ty_dict_tup, v_ty_dict_dct, v_isN_non, v_isN_int, v_isN_bl, v_isN_str, v_sliS, v_sliL, v_sliT, v_optN, v_optI, v_meT, v_join, v_walL, v_walT, v_walS, v_rng1, v_rng2, v_enum, v_zip, v_fewF, v_any1, v_any2, Nat.zero_add, Nat.reduceAdd, Nat.reduceLT, Nat.reduceLeDiff, Nat.reduceSub, Nat.reduceEqDiff, le_lim, e0])]
    rw [if_pos rfl]
    unfold y0_cleared
    refine sqR ?_
    simp only [s1_cleared, exB, hk, bnd_ret]
  · have e0 : (BA.cell row c == 0) = false := by simpa using ht
    rw [sq (s := s2_cleared) (env' := [some (.d (dR row)), some (.d (dR line)), some (.d (.int c)), some (.d (.int d)), some (.d (.int (BA.cell line c))), some (.d (.int (BA.cell row c))), none, none]) (S' := []) (by
      rw [s2_cleared, ife_of (k := false) (by simp only [exB, evE, evL, tstE, M.bnd, opt_some, bnd_ret, opt_bnd, mapO, List.length_cons, List.length_nil, List.map_cons, List.map_nil, List.replicate, List.getElem?_cons_zero, List.getElem?_cons_succ, List.cons_append, List.nil_append, if_true, if_false, Bool.false_eq_true, Nat.sub_self, Bool.true_and, Bool.and_true, Bool.false_and, Bool.and_false, Bool.not_true, Bool.not_false, Bool.or_false, Bool.false_or, Bool.true_or, Bool.or_true, decide_true, decide_false, Option.map_some, permD, setW, List.set_cons_zero, List.set_cons_succ, bindP, bindPs, v_rd, v_dat, v_non, v_bl, v_int, v_lst, v_tup, v_str, v_add, v_sub, v_mul, v_fdiv, v_mod, v_cat, v_app, v_neg, v_lt, v_le, v_gt, v_ge, v_eq, v_isN, v_notN, v_in, v_nin, v_inS, v_eqI, v_eqS, v_neI, v_neS, v_lenS, v_lenL, v_lenT, v_repr, v_intI, v_intB, v_abs, v_ty_int_non, v_ty_int_bl, v_ty_int_int, v_ty_int_str, v_ty_int_lst, v_ty_int_tup, v_ty_int_dct, v_ty_bool_non, v_ty_bool_bl, v_ty_bool_int, v_ty_bool_str, v_ty_bool_lst, v_ty_bool_tup, v_ty_bool_dct, v_ty_str_non, v_ty_str_bl, v_ty_str_int, v_ty_str_str, v_ty_str_lst, v_ty_str_tup, v_ty_str_dct, v_ty_list_non, v_ty_list_bl, v_ty_list_int, v_ty_list_str, v_ty_list_lst, v_ty_list_tup, v_ty_list_dct, v_ty_tuple_non, v_ty_tuple_bl, v_ty_tuple_int, v_ty_tuple_str, v_ty_tuple_lst, v_ty_tuple_tup, v_ty_tuple_dct, v_ty_dict_non, v_ty_dict_bl, v_ty_dict_int, v_ty_dict_str, v_ty_dict_lst, v_ty_dict_tup, v_ty_dict_dct, v_isN_non, v_isN_int, v_isN_bl, v_isN_str, v_sliS, v_sliL, v_sliT, v_optN, v_optI, v_meT, v_join, v_walL, v_walT, v_walS, v_rng1, v_rng2, v_enum, v_zip, v_fewF, v_any1, v_any2, Nat.zero_add, Nat.reduceAdd, Nat.reduceLT, Nat.reduceLeDiff, Nat.reduceSub, Nat.reduceEqDiff, le_lim, e0]), if_neg Bool.false_ne_true]
      exact sq0)]
    refine sqR ?_
    have hk : evE (run tbl.T n) k1_cleared [some (.d (dR row)), some (.d (dR line)), some (.d (.int c)), some (.d (.int d)), some (.d (.int (BA.cell line c))), some (.d (.int (BA.cell row c))), none, none] [] = .ret (.d (dR (BA.clr row line c d)), []) := by
      have q := ev_of (C := run tbl.T n) (m := false) (chk := false) (pt := .cons (.name 6) (.cons (.name 7) .nil)) (k := .zip) (src := .cons (.var 0) (.cons (.var 1) .nil)) (cond := .dat (.bl true)) (elt := .bin .fdiv (.bin .sub (.bin .mul (.var 6) (.var 4)) (.bin .mul (.var 5) (.var 7))) (.var 3)) (env := [some (.d (dR row)), some (.d (dR line)), some (.d (.int c)), some (.d (.int d)), some (.d (.int (BA.cell line c))), some (.d (.int (BA.cell row c))), none, none]) (S := []) (S1 := []) (ws := [.d (dR row), .d (dR line)]) (ds := [dR row, dR line]) (row.zip line) (fun p => .tup [.int p.1, .int p.2]) (fun p => some (D.int ((p.1 * BA.cell line c - BA.cell row c * p.2).fdiv d))) (by simp only [exB, evE, evL, tstE, M.bnd, opt_some, bnd_ret, opt_bnd, mapO, List.length_cons, List.length_nil, List.map_cons, List.map_nil, List.replicate, List.getElem?_cons_zero, List.getElem?_cons_succ, List.cons_append, List.nil_append, if_true, if_false, Bool.false_eq_true, Nat.sub_self, Bool.true_and, Bool.and_true, Bool.false_and, Bool.and_false, Bool.not_true, Bool.not_false, Bool.or_false, Bool.false_or, Bool.true_or, Bool.or_true, decide_true, decide_false, Option.map_some, permD, setW, List.set_cons_zero, List.set_cons_succ, bindP, bindPs, v_rd, v_dat, v_non, v_bl, v_int, v_lst, v_tup, v_str, v_add, v_sub, v_mul, v_fdiv, v_mod, v_cat, v_app, v_neg, v_lt, v_le, v_gt, v_ge, v_eq, v_isN, v_notN, v_in, v_nin, v_inS, v_eqI, v_eqS, v_neI, v_neS, v_lenS, v_lenL, v_lenT, v_repr, v_intI, v_intB, v_abs, v_ty_int_non, v_ty_int_bl, v_ty_int_int, v_ty_int_str, v_ty_int_lst, v_ty_int_tup, v_ty_int_dct, v_ty_bool_non, v_ty_bool_bl, v_ty_bool_int, v_ty_bool_str, v_ty_bool_lst, v_ty_bool_tup, v_ty_bool_dct, v_ty_str_non, v_ty_str_bl, v_ty_str_int, v_ty_str_str, v_ty_str_lst, v_ty_str_tup, v_ty_str_dct, v_ty_list_non, v_ty_list_bl, v_ty_list_int, v_ty_list_str, v_ty_list_lst, v_ty_list_tup, v_ty_list_dct, v_ty_tuple_non, v_ty_tuple_bl, v_ty_tuple_int, v_ty_tuple_str, v_ty_tuple_lst, v_ty_tuple_tup, v_ty_tuple_dct, v_ty_dict_non, v_ty_dict_bl, v_ty_dict_int, v_ty_dict_str, v_ty_dict_lst, v_ty_dict_tup, v_ty_dict_dct, v_isN_non, v_isN_int, v_isN_bl, v_isN_str, v_sliS, v_sliL, v_sliT, v_optN, v_optI, v_meT, v_join, v_walL, v_walT, v_walS, v_rng1, v_rng2, v_enum, v_zip, v_fewF, v_any1, v_any2, Nat.zero_add, Nat.reduceAdd, Nat.reduceLT, Nat.reduceLeDiff, Nat.reduceSub, Nat.reduceEqDiff, le_lim]) rfl (by show some (zipD _ _) = _; rw [zipD_map]) rfl (by rw [List.length_zip]; unfold lim; omega) fun p hp => by
        have h1 := hr p.1 (List.of_mem_zip hp).1
        have h2 := hl p.2 (List.of_mem_zip hp).2
        refine ⟨_, by simp only [exB, evE, evL, tstE, M.bnd, opt_some, bnd_ret, opt_bnd, mapO, List.length_cons, List.length_nil, List.map_cons, List.map_nil, List.replicate, List.getElem?_cons_zero, List.getElem?_cons_succ, List.cons_append, List.nil_append, if_true, if_false, Bool.false_eq_true, Nat.sub_self, Bool.true_and, Bool.and_true, Bool.false_and, Bool.and_false, Bool.not_true, Bool.not_false, Bool.or_false, Bool.false_or, Bool.true_or, Bool.or_true, decide_true, decide_false, Option.map_some, permD, setW, List.set_cons_zero, List.set_cons_succ, bindP, bindPs, v_rd, v_dat, v_non, v_bl, v_int, v_lst, v_tup, v_str, v_add, v_sub, v_mul, v_fdiv, v_mod, v_cat, v_app, v_neg, v_lt, v_le, v_gt, v_ge, v_eq, v_isN, v_notN, v_in, v_nin, v_inS, v_eqI, v_eqS, v_neI, v_neS, v_lenS, v_lenL, v_lenT, v_repr, v_intI, v_intB, v_abs, v_ty_int_non, v_ty_int_bl, v_ty_int_int, v_ty_int_str, v_ty_int_lst, v_ty_int_tup, v_ty_int_dct, v_ty_bool_non, v_ty_bool_bl, v_ty_bool_int, v_ty_bool_str, v_ty_bool_lst, v_ty_bool_tup, v_ty_bool_dct, v_ty_str_non, v_ty_str_bl, v_ty_str_int, v_ty_str_str, v_ty_str_lst, v_ty_str_tup, v_ty_str_dct, v_ty_list_non, v_ty_list_bl, v_ty_list_int, v_ty_list_str, v_ty_list_lst, v_ty_list_tup, v_ty_list_dct, v_ty_tuple_non, v_ty_tuple_bl, v_ty_tuple_int, v_ty_tuple_str, v_ty_tuple_lst, v_ty_tuple_tup, v_ty_tuple_dct, v_ty_dict_non, v_ty_dict_bl, v_ty_dict_int, v_ty_dict_str, v_ty_dict_lst, v_ty_dict_tup, v_ty_dict_dct, v_isN_non, v_isN_int, v_isN_bl, v_isN_str, v_sliS, v_sliL, v_sliT, v_optN, v_optI, v_meT, v_join, v_walL, v_walT, v_walS, v_rng1, v_rng2, v_enum, v_zip, v_fewF, v_any1, v_any2, Nat.zero_add, Nat.reduceAdd, Nat.reduceLT, Nat.reduceLeDiff, Nat.reduceSub, Nat.reduceEqDiff, le_lim]; rfl, el_yes ?_⟩
        simp only [exB, evE, evL, tstE, M.bnd, opt_some, bnd_ret, opt_bnd, mapO, List.length_cons, List.length_nil, List.map_cons, List.map_nil, List.replicate, List.getElem?_cons_zero, List.getElem?_cons_succ, List.cons_append, List.nil_append, if_true, if_false, Bool.false_eq_true, Nat.sub_self, Bool.true_and, Bool.and_true, Bool.false_and, Bool.and_false, Bool.not_true, Bool.not_false, Bool.or_false, Bool.false_or, Bool.true_or, Bool.or_true, decide_true, decide_false, Option.map_some, permD, setW, List.set_cons_zero, List.set_cons_succ, bindP, bindPs, v_rd, v_dat, v_non, v_bl, v_int, v_lst, v_tup, v_str, v_add, v_sub, v_mul, v_fdiv, v_mod, v_cat, v_app, v_neg, v_lt, v_le, v_gt, v_ge, v_eq, v_isN, v_notN, v_in, v_nin, v_inS, v_eqI, v_eqS, v_neI, v_neS, v_lenS, v_lenL, v_lenT, v_repr, v_intI, v_intB, v_abs, v_ty_int_non, v_ty_int_bl, v_ty_int_int, v_ty_int_str, v_ty_int_lst, v_ty_int_tup, v_ty_int_dct, v_ty_bool_non, v_ty_bool_bl, v_ty_bool_int, v_ty_bool_str, v_ty_bool_lst, v_ty_bool_tup, v_ty_bool_dct, v_ty_str_non, v_ty_str_bl, v_ty_str_int, v_ty_str_str, v_ty_str_lst, v_ty_str_tup, v_ty_str_dct, v_ty_list_non, v_ty_list_bl, v_ty_list_int, v_ty_list_str, v_ty_list_lst, v_ty_list_tup, v_ty_list_dct, v_ty_tuple_non, v_ty_tuple_bl, v_ty_tuple_int, v_ty_tuple_str, v_ty_tuple_lst, v_ty_tuple_tup, v_ty_tuple_dct, v_ty_dict_non, v_ty_dict_bl, v_ty_dict_int, v_ty_dict_str, v_ty_dict_lst, v_ty_dict_tup, v_ty_dict_dct, v_isN_non, v_isN_int, v_isN_bl, v_isN_str, v_sliS, v_sliL, v_sliT, v_optN, v_optI, v_meT, v_join, v_walL, v_walT, v_walS, v_rng1, v_rng2, v_enum, v_zip, v_fewF, v_any1, v_any2, Nat.zero_add, Nat.reduceAdd, Nat.reduceLT, Nat.reduceLeDiff, Nat.reduceSub, Nat.reduceEqDiff, le_lim, mulok h1 pv h0 h9, mulok tm h2 h0 h9, v_fdivZ, if_pos (And.intro hd l9)]
      unfold k1_cleared
      rw [q, fm_some]
      show M.ret (W.d (.lst ((row.zip line).map fun p => D.int ((p.1 * BA.cell line c - BA.cell row c * p.2).fdiv d))), []) = _
      unfold dR BA.clr
      rw [List.map_zipWith, zip_zipWith (fun p q => D.int ((p * BA.cell line c - BA.cell row c * q).fdiv d))]
    simp only [s3_cleared, exB, hk, bnd_ret]
end RL.T
end

section
set_option Elab.async false
set_option linter.all false
set_option maxRecDepth 100000
set_option maxHeartbeats 400000
namespace RL.T
open PySem L2
/-! the elimination -/
def dRs (l : BA.Rows) : List D := l.map dR
def dI (l : List Nat) : List D := l.map fun (i : Nat) => .int (i : Int)
theorem rd_r {S : Sto} {n : Nat} {ds : List D} (h : S[n]? = some (.lst ds)) : rdW (.r n) S = some (.lst ds) := by
  simp only [rdW, h]
theorem atI_row {l : BA.Rows} {i : Nat} (h : i < l.length) : subD (.lst (dRs l)) (.int i) = some (dR (BA.row l i)) := by
  have e : L2.atI (dRs l) (i : Int) = some (dR (BA.row l i)) := by
    unfold L2.atI
    rw [ixN_of (by omega) (by unfold dRs; simp; omega)]
    show (l.map dR)[i]? = _
    rw [List.getElem?_map, List.getElem?_eq_getElem h]
    unfold BA.row
    rw [BA.getD_at h]
    rfl
  show (match L2.atI (dRs l) (i : Int) with | some d => some d | none => none) = _
  rw [e]
theorem ixN_nat {n i : Nat} (h : i < n) : L2.ixN n (i : Int) = some i := by
  rw [ixN_of (by omega) (by omega)]
  rfl
/-! equal data -/
theorem pys_dR : ∀ r : List Int, D.pys (r.map .int) = some (r.map .int)
  | [] => rfl
  | x :: r => by
    show (match D.py (.int x), D.pys (r.map .int) with
      | some x, some xs => some (x :: xs)
      | _, _ => none) = _
    rw [pys_dR r]
    rfl
theorem py_dR (r : List Int) : D.py (dR r) = some (.list (r.map .int)) := by
  unfold dR
  simp only [D.py, pys_dR, Option.map_some]
theorem pys_dM : ∀ m : BA.Rows, D.pys (dRs m) = some (m.map fun r => .list (r.map .int))
  | [] => rfl
  | x :: r => by
    show (match D.py (dR x), D.pys (dRs r) with
      | some x, some xs => some (x :: xs)
      | _, _ => none) = _
    rw [pys_dM r, py_dR]
    rfl
theorem lay_ints : ∀ r : List Int, PyData.canLayAll0 (r.map .int) = true ∧ PyData.depthAll (r.map .int) = 0
  | [] => ⟨rfl, rfl⟩
  | x :: r => by
    obtain ⟨h1, h2⟩ := lay_ints r
    refine ⟨?_, ?_⟩
    · show (PyData.canLay0 (.int x) && PyData.canLayAll0 (r.map .int)) = true
      rw [h1, Bool.and_true]
      rfl
    · show max (PyData.depth (.int x)) (PyData.depthAll (r.map .int)) = 0
      rw [h2]
      rfl
theorem lay_rows : ∀ m : BA.Rows, PyData.canLayAll0 (m.map fun r => .list (r.map .int)) = true ∧ PyData.depthAll (m.map fun r => PyData.list (r.map .int)) ≤ 1
  | [] => ⟨rfl, by decide⟩
  | x :: r => by
    obtain ⟨h1, h2⟩ := lay_rows r
    obtain ⟨g1, g2⟩ := lay_ints x
    refine ⟨?_, ?_⟩
    · show (PyData.canLay0 (.list (x.map .int)) && PyData.canLayAll0 (r.map fun r => .list (r.map .int))) = true
      rw [h1, Bool.and_true]
      simpa [PyData.canLay0] using g1
    · show max (PyData.depth (.list (x.map .int))) (PyData.depthAll (r.map fun r => PyData.list (r.map .int))) ≤ 1
      have : PyData.depth (.list (x.map .int)) = 1 := by simp [PyData.depth, g2]
      omega
theorem shaped_ints (r : List Int) : SeqAt.shaped (.list (r.map .int)) = true := by
  obtain ⟨h1, h2⟩ := lay_ints r
  unfold SeqAt.shaped
  simp only [PyData.canLay0, PyData.depth, h1, h2]
  decide
theorem shaped_rows (m : BA.Rows) : SeqAt.shaped (.list (m.map fun r => .list (r.map .int))) = true := by
  obtain ⟨h1, h2⟩ := lay_rows m
  show (PyData.canLayAll0 (m.map fun r => .list (r.map .int)) && decide (PyData.depthAll (m.map fun r => PyData.list (r.map .int)) + 1 ≤ 64)) = true
  rw [h1, Bool.true_and, decide_eq_true_eq]
  omega
theorem eq_py {a b : D} {x y : PyData} (fa : flatD a = false) (ia : isDct a = false) (ha : a.py = some x) (hb : b.py = some y) (sa : SeqAt.shaped x = true) (sb : SeqAt.shaped y = true) : eqD a b = some (PyData.eqv x y) := by
  unfold eqD
  rw [fa, ia, ha, hb]
  show (if SeqAt.shaped x && SeqAt.shaped y then some (PyData.eqv x y) else none) = _
  rw [sa, sb]
  rfl
theorem eqR_self (r : List Int) : eqD (dR r) (dR r) = some true := by
  rw [eq_py rfl rfl (py_dR r) (py_dR r) (shaped_ints r) (shaped_ints r), SeqAt.eqv_refl]
  exact (lay_ints r).1
theorem eqM_self (m : BA.Rows) : eqD (.lst (dRs m)) (.lst (dRs m)) = some true := by
  have e : D.py (.lst (dRs m)) = some (.list (m.map fun r => .list (r.map .int))) := by simp only [D.py, pys_dM, Option.map_some]
  rw [eq_py rfl rfl e e (shaped_rows m) (shaped_rows m), SeqAt.eqv_refl]
  exact (lay_rows m).1
theorem eqM_nil (m : BA.Rows) : eqD (.lst (dRs m)) (.lst []) = some m.isEmpty := by
  have e : D.py (.lst (dRs m)) = some (.list (m.map fun r => .list (r.map .int))) := by simp only [D.py, pys_dM, Option.map_some]
  rw [eq_py rfl rfl e (show D.py (.lst []) = some (.list []) from rfl) (shaped_rows m) rfl]
  cases m <;> rfl
theorem eqR_nil (r : List Int) : eqD (dR r) (.lst []) = some r.isEmpty := by
  rw [eq_py rfl rfl (py_dR r) (show D.py (.lst []) = some (.list []) from rfl) (shaped_ints r) rfl]
  cases r <;> rfl
theorem v_neL {a b : List D} : cmpD .ne (.lst a) (.lst b) = (eqD (.lst a) (.lst b)).map not := rfl
theorem eqI_nil (l : List Nat) : eqD (.lst (dI l)) (.lst []) = some l.isEmpty := by
  have e : dI l = (l.map fun (i : Nat) => (i : Int)).map .int := by unfold dI; rw [List.map_map]; rfl
  rw [e]
  have e2 : (l.map fun (i : Nat) => (i : Int)).isEmpty = l.isEmpty := by simp
  exact (eqR_nil _).trans (by rw [e2])
/-! the places of a pivot -/
theorem spots_filter (l : BA.Rows) (c : Nat) : ∀ (m k : Nat), (List.range' k m).filter (fun s => !(BA.cell (BA.row l s) c == 0)) = BA.spots l c k m
  | 0, k => rfl
  | m + 1, k => by
    rw [List.range'_succ, List.filter_cons]
    unfold BA.spots
    rw [spots_filter l c m (k + 1)]
    by_cases h : BA.cell (BA.row l k) c = 0
    · simp [h]
    · have e : (!(BA.cell (BA.row l k) c == 0)) = true := by simpa using h
      rw [if_pos e, if_pos h]
/-- where the program stands after j columns -/
structure IS (rows : BA.Rows) (S0 : Sto) (j : Nat) (env : EnvD) (S : Sto) : Prop where
  ex : ∃ lx a1 a5 a6 a7 a8 a9, env = [some (.d (.lst (dRs rows))), a1, some (.r lx), some (.r (S0.length + 1)), some (.d (.int (BA.runS rows j).d)), a5, a6, a7, a8, a9] ∧
    S[lx]? = some (.lst (dRs (BA.runS rows j).left)) ∧ lx ≠ S0.length + 1
  ld : S[S0.length + 1]? = some (.lst (dI (BA.runS rows j).lds))
theorem dRs_set (l : BA.Rows) (i : Nat) (r : List Int) : (dRs l).set i (dR r) = dRs (l.set i r) := by unfold dRs; rw [List.map_set]
theorem dRs_len (l : BA.Rows) : (dRs l).length = l.length := by simp [dRs]
theorem dI_len (l : List Nat) : (dI l).length = l.length := by simp [dI]
theorem row_set (l : BA.Rows) {i j : Nat} : (l.set i (BA.row l j)).set j (BA.row l i) = BA.swp [] l i j := rfl
section
variable {C : Calls} {rows l : BA.Rows} {S : Sto} {lx ix j k d : Nat} {e0 a1 a4 a5 a6 a7 a8 a9 : Option W} {dv : Int} {lds : List Nat}
theorem st_s1 (hd : S[ix]? = some (.lst (dI lds))) : exB C s1_stepped [e0, a1, some (.r lx), some (.r ix), a4, a5, a6, a7, a8, a9] S = .ret (.nx, [e0, a1, some (.r lx), some (.r ix), a4, some (.d (.int (lds.length : Nat))), a6, a7, a8, a9], S) := by
  simp only [s1_stepped, exB, evE, evL, tstE, M.bnd, opt_some, bnd_ret, opt_bnd, mapO, List.length_cons, List.length_nil, List.map_cons, List.map_nil, List.replicate, List.getElem?_cons_zero, List.getElem?_cons_succ, List.cons_append, List.nil_append, if_true, if_false, Bool.false_eq_true, Nat.sub_self, Bool.true_and, Bool.and_true, Bool.false_and, Bool.and_false, Bool.not_true, Bool.not_false, Bool.or_false, Bool.false_or, Bool.true_or, Bool.or_true, decide_true, decide_false, Option.map_some, permD, setW, List.set_cons_zero, List.set_cons_succ, bindP, bindPs, v_rd, v_dat, v_non, v_bl, v_int, v_lst, v_tup, v_str, v_add, v_sub, v_mul, v_fdiv, v_mod, v_cat, v_app, v_neg, v_lt, v_le, v_gt, v_ge, v_eq, v_isN, v_notN, v_in, v_nin, v_inS, v_eqI, v_eqS, v_neI, v_neS, v_lenS, v_lenL, v_lenT, v_repr, v_intI, v_intB, v_abs, v_ty_int_non, v_ty_int_bl, v_ty_int_int, v_ty_int_str, v_ty_int_lst, v_ty_int_tup, v_ty_int_dct, v_ty_bool_non, v_ty_bool_bl, v_ty_bool_int, v_ty_bool_str, v_ty_bool_lst, v_ty_bool_tup, v_ty_bool_dct, v_ty_str_non, v_ty_str_bl, v_ty_str_int, v_ty_str_str, v_ty_str_lst, v_ty_str_tup, v_ty_str_dct, v_ty_list_non, v_ty_list_bl, v_ty_list_int, v_ty_list_str, v_ty_list_lst, v_ty_list_tup, v_ty_list_dct, v_ty_tuple_non, v_ty_tuple_bl, v_ty_tuple_int, v_ty_tuple_str, v_ty_tuple_lst, v_ty_tuple_tup, v_ty_tuple_dct, v_ty_dict_non, v_ty_dict_bl, v_ty_dict_int, v_ty_dict_str, v_ty_dict_lst, v_ty_dict_tup, v_ty_dict_dct, v_isN_non, v_isN_int, v_isN_bl, v_isN_str, v_sliS, v_sliL, v_sliT, v_optN, v_optI, v_meT, v_join, v_walL, v_walT, v_walS, v_rng1, v_rng2, v_enum, v_zip, v_fewF, v_any1, v_any2, Nat.zero_add, Nat.reduceAdd, Nat.reduceLT, Nat.reduceLeDiff, Nat.reduceSub, Nat.reduceEqDiff, le_lim, rd_r hd, dI_len]
theorem st_s2 (hl : S[lx]? = some (.lst (dRs l))) (hk : k ≤ l.length) (hlen : l.length ≤ 1000) (hc : ∀ r ∈ l, j < r.length) : exB C s2_stepped [e0, some (.d (.int j)), some (.r lx), a4, a1, some (.d (.int k)), a6, a7, a8, a9] S = .ret (.nx, [e0, some (.d (.int j)), some (.r lx), a4, a1, some (.d (.int k)), some (.d (.lst (dI (BA.spots l j k (l.length - k))))), a7, a8, a9], S) := by
  have q := ev_of (C := C) (m := false) (chk := false) (pt := .name 9) (k := .range) (src := .cons (.var 5) (.cons (.bi .len (.cons (.var 2) .nil)) .nil)) (cond := .cmp .ne (.sub (.sub (.var 2) (.var 9)) (.var 1)) (.dat (.int 0))) (elt := .var 9) (env := [e0, some (.d (.int j)), some (.r lx), a4, a1, some (.d (.int k)), a6, a7, a8, a9]) (S := S) (S1 := S) (ws := [.d (.int k), .d (.int l.length)]) (ds := [.int k, .int l.length])
    (List.range' k (l.length - k)) (fun (i : Nat) => D.int (i : Int)) (fun (i : Nat) => if (!(BA.cell (BA.row l i) j == 0)) then some (D.int (i : Int)) else none) (by simp only [exB, evE, evL, tstE, M.bnd, opt_some, bnd_ret, opt_bnd, mapO, List.length_cons, List.length_nil, List.map_cons, List.map_nil, List.replicate, List.getElem?_cons_zero, List.getElem?_cons_succ, List.cons_append, List.nil_append, if_true, if_false, Bool.false_eq_true, Nat.sub_self, Bool.true_and, Bool.and_true, Bool.false_and, Bool.and_false, Bool.not_true, Bool.not_false, Bool.or_false, Bool.false_or, Bool.true_or, Bool.or_true, decide_true, decide_false, Option.map_some, permD, setW, List.set_cons_zero, List.set_cons_succ, bindP, bindPs, v_rd, v_dat, v_non, v_bl, v_int, v_lst, v_tup, v_str, v_add, v_sub, v_mul, v_fdiv, v_mod, v_cat, v_app, v_neg, v_lt, v_le, v_gt, v_ge, v_eq, v_isN, v_notN, v_in, v_nin, v_inS, v_eqI, v_eqS, v_neI, v_neS, v_lenS, v_lenL, v_lenT, v_repr, v_intI, v_intB, v_abs, v_ty_int_non, v_ty_int_bl, v_ty_int_int, v_ty_int_str, v_ty_int_lst, v_ty_int_tup, v_ty_int_dct, v_ty_bool_non, v_ty_bool_bl, v_ty_bool_int, v_ty_bool_str, v_ty_bool_lst, v_ty_bool_tup, v_ty_bool_dct, v_ty_str_non, v_ty_str_bl, v_ty_str_int, v_ty_str_str, v_ty_str_lst, v_ty_str_tup, v_ty_str_dct, v_ty_list_non, v_ty_list_bl, v_ty_list_int, v_ty_list_str, v_ty_list_lst, v_ty_list_tup, v_ty_list_dct, v_ty_tuple_non, v_ty_tuple_bl, v_ty_tuple_int, v_ty_tuple_str, v_ty_tuple_lst, v_ty_tuple_tup, v_ty_tuple_dct, v_ty_dict_non, v_ty_dict_bl, v_ty_dict_int, v_ty_dict_str, v_ty_dict_lst, v_ty_dict_tup, v_ty_dict_dct, v_isN_non, v_isN_int, v_isN_bl, v_isN_str, v_sliS, v_sliL, v_sliT, v_optN, v_optI, v_meT, v_join, v_walL, v_walT, v_walS, v_rng1, v_rng2, v_enum, v_zip, v_fewF, v_any1, v_any2, Nat.zero_add, Nat.reduceAdd, Nat.reduceLT, Nat.reduceLeDiff, Nat.reduceSub, Nat.reduceEqDiff, le_lim, rd_r hl, dRs_len]) rfl (by
      rw [v_rng2]
      have e1 : (small (k : Int) && small (l.length : Int)) = true := by
        unfold small
        rw [Bool.and_eq_true, Bool.and_eq_true, Bool.and_eq_true, decide_eq_true_eq, decide_eq_true_eq, decide_eq_true_eq, decide_eq_true_eq]
        omega
      rw [if_pos e1, ← upD_map]
      have e2 : ((l.length : Int) - (k : Int)).toNat = l.length - k := by omega
      rw [e2]) rfl (by rw [List.length_range']; unfold lim; omega) fun i hi => by
        have hi := List.mem_range'_1.mp hi
        have hil : i < l.length := by omega
        have hrow : BA.row l i ∈ l := by unfold BA.row; rw [BA.getD_at hil]; exact List.getElem_mem _
        refine ⟨_, by simp only [exB, evE, evL, tstE, M.bnd, opt_some, bnd_ret, opt_bnd, mapO, List.length_cons, List.length_nil, List.map_cons, List.map_nil, List.replicate, List.getElem?_cons_zero, List.getElem?_cons_succ, List.cons_append, List.nil_append, if_true, if_false, Bool.false_eq_true, Nat.sub_self, Bool.true_and, Bool.and_true, Bool.false_and, Bool.and_false, Bool.not_true, Bool.not_false, Bool.or_false, Bool.false_or, Bool.true_or, Bool.or_true, decide_true, decide_false, Option.map_some, permD, setW, List.set_cons_zero, List.set_cons_succ, bindP, bindPs, v_rd, v_dat, v_non, v_bl, v_int, v_lst, v_tup, v_str, v_add, v_sub, v_mul, v_fdiv, v_mod, v_cat, v_app, v_neg, v_lt, v_le, v_gt, v_ge, v_eq, v_isN, v_notN, v_in, v_nin, v_inS, v_eqI, v_eqS, v_neI, v_neS, v_lenS, v_lenL, v_lenT, v_repr, v_intI, v_intB, v_abs, v_ty_int_non, v_ty_int_bl, v_ty_int_int, v_ty_int_str, v_ty_int_lst, v_ty_int_tup, v_ty_int_dct, v_ty_bool_non, v_ty_bool_bl, v_ty_bool_int, v_ty_bool_str, v_ty_bool_lst, v_ty_bool_tup, v_ty_bool_dct, v_ty_str_non, v_ty_str_bl, v_ty_str_int, v_ty_str_str, v_ty_str_lst, v_ty_str_tup, v_ty_str_dct, v_ty_list_non, v_ty_list_bl, v_ty_list_int, v_ty_list_str, v_ty_list_lst, v_ty_list_tup, v_ty_list_dct, v_ty_tuple_non, v_ty_tuple_bl, v_ty_tuple_int, v_ty_tuple_str, v_ty_tuple_lst, v_ty_tuple_tup, v_ty_tuple_dct, v_ty_dict_non, v_ty_dict_bl, v_ty_dict_int, v_ty_dict_str, v_ty_dict_lst, v_ty_dict_tup, v_ty_dict_dct, v_isN_non, v_isN_int, v_isN_bl, v_isN_str, v_sliS, v_sliL, v_sliT, v_optN, v_optI, v_meT, v_join, v_walL, v_walT, v_walS, v_rng1, v_rng2, v_enum, v_zip, v_fewF, v_any1, v_any2, Nat.zero_add, Nat.reduceAdd, Nat.reduceLT, Nat.reduceLeDiff, Nat.reduceSub, Nat.reduceEqDiff, le_lim]; rfl, el_if ?_ fun _ => ?_⟩
        · simp only [exB, evE, evL, tstE, M.bnd, opt_some, bnd_ret, opt_bnd, mapO, List.length_cons, List.length_nil, List.map_cons, List.map_nil, List.replicate, List.getElem?_cons_zero, List.getElem?_cons_succ, List.cons_append, List.nil_append, if_true, if_false, Bool.false_eq_true, Nat.sub_self, Bool.true_and, Bool.and_true, Bool.false_and, Bool.and_false, Bool.not_true, Bool.not_false, Bool.or_false, Bool.false_or, Bool.true_or, Bool.or_true, decide_true, decide_false, Option.map_some, permD, setW, List.set_cons_zero, List.set_cons_succ, bindP, bindPs, v_rd, v_dat, v_non, v_bl, v_int, v_lst, v_tup, v_str, v_add, v_sub, v_mul, v_fdiv, v_mod, v_cat, v_app, v_neg, v_lt, v_le, v_gt, v_ge, v_eq, v_isN, v_notN, v_in, v_nin, v_inS, v_eqI, v_eqS, v_neI, v_neS, v_lenS, v_lenL, v_lenT, v_repr, v_intI, v_intB, v_abs, v_ty_int_non, v_ty_int_bl, v_ty_int_int, v_ty_int_str, v_ty_int_lst, v_ty_int_tup, v_ty_int_dct, v_ty_bool_non, v_ty_bool_bl, v_ty_bool_int, v_ty_bool_str, v_ty_bool_lst, v_ty_bool_tup, v_ty_bool_dct, v_ty_str_non, v_ty_str_bl, v_ty_str_int, v_ty_str_str, v_ty_str_lst, v_ty_str_tup, v_ty_str_dct, v_ty_list_non, v_ty_list_bl, v_ty_list_int, v_ty_list_str, v_ty_list_lst, v_ty_list_tup, v_ty_list_dct, v_ty_tuple_non, v_ty_tuple_bl, v_ty_tuple_int, v_ty_tuple_str, v_ty_tuple_lst, v_ty_tuple_tup, v_ty_tuple_dct, v_ty_dict_non, v_ty_dict_bl, v_ty_dict_int, v_ty_dict_str, v_ty_dict_lst, v_ty_dict_tup, v_ty_dict_dct, v_isN_non, v_isN_int, v_isN_bl, v_isN_str, v_sliS, v_sliL, v_sliT, v_optN, v_optI, v_meT, v_join, v_walL, v_walT, v_walS, v_rng1, v_rng2, v_enum, v_zip, v_fewF, v_any1, v_any2, Nat.zero_add, Nat.reduceAdd, Nat.reduceLT, Nat.reduceLeDiff, Nat.reduceSub, Nat.reduceEqDiff, le_lim, rd_r hl, atI_row hil, atI_cell (hc _ hrow)]
        · simp only [exB, evE, evL, tstE, M.bnd, opt_some, bnd_ret, opt_bnd, mapO, List.length_cons, List.length_nil, List.map_cons, List.map_nil, List.replicate, List.getElem?_cons_zero, List.getElem?_cons_succ, List.cons_append, List.nil_append, if_true, if_false, Bool.false_eq_true, Nat.sub_self, Bool.true_and, Bool.and_true, Bool.false_and, Bool.and_false, Bool.not_true, Bool.not_false, Bool.or_false, Bool.false_or, Bool.true_or, Bool.or_true, decide_true, decide_false, Option.map_some, permD, setW, List.set_cons_zero, List.set_cons_succ, bindP, bindPs, v_rd, v_dat, v_non, v_bl, v_int, v_lst, v_tup, v_str, v_add, v_sub, v_mul, v_fdiv, v_mod, v_cat, v_app, v_neg, v_lt, v_le, v_gt, v_ge, v_eq, v_isN, v_notN, v_in, v_nin, v_inS, v_eqI, v_eqS, v_neI, v_neS, v_lenS, v_lenL, v_lenT, v_repr, v_intI, v_intB, v_abs, v_ty_int_non, v_ty_int_bl, v_ty_int_int, v_ty_int_str, v_ty_int_lst, v_ty_int_tup, v_ty_int_dct, v_ty_bool_non, v_ty_bool_bl, v_ty_bool_int, v_ty_bool_str, v_ty_bool_lst, v_ty_bool_tup, v_ty_bool_dct, v_ty_str_non, v_ty_str_bl, v_ty_str_int, v_ty_str_str, v_ty_str_lst, v_ty_str_tup, v_ty_str_dct, v_ty_list_non, v_ty_list_bl, v_ty_list_int, v_ty_list_str, v_ty_list_lst, v_ty_list_tup, v_ty_list_dct, v_ty_tuple_non, v_ty_tuple_bl, v_ty_tuple_int, v_ty_tuple_str, v_ty_tuple_lst, v_ty_tuple_tup, v_ty_tuple_dct, v_ty_dict_non, v_ty_dict_bl, v_ty_dict_int, v_ty_dict_str, v_ty_dict_lst, v_ty_dict_tup, v_ty_dict_dct, v_isN_non, v_isN_int, v_isN_bl, v_isN_str, v_sliS, v_sliL, v_sliT, v_optN, v_optI, v_meT, v_join, v_walL, v_walT, v_walS, v_rng1, v_rng2, v_enum, v_zip, v_fewF, v_any1, v_any2, Nat.zero_add, Nat.reduceAdd, Nat.reduceLT, Nat.reduceLeDiff, Nat.reduceSub, Nat.reduceEqDiff, le_lim]
  have e : (BA.spots l j k (l.length - k)).map (fun (i : Nat) => D.int (i : Int)) = dI (BA.spots l j k (l.length - k)) := rfl
  simp only [s2_stepped, exB, k1_stepped]
  rw [q, fm_if, spots_filter, e]
  simp only [exB, evE, evL, tstE, M.bnd, opt_some, bnd_ret, opt_bnd, mapO, List.length_cons, List.length_nil, List.map_cons, List.map_nil, List.replicate, List.getElem?_cons_zero, List.getElem?_cons_succ, List.cons_append, List.nil_append, if_true, if_false, Bool.false_eq_true, Nat.sub_self, Bool.true_and, Bool.and_true, Bool.false_and, Bool.and_false, Bool.not_true, Bool.not_false, Bool.or_false, Bool.false_or, Bool.true_or, Bool.or_true, decide_true, decide_false, Option.map_some, permD, setW, List.set_cons_zero, List.set_cons_succ, bindP, bindPs, v_rd, v_dat, v_non, v_bl, v_int, v_lst, v_tup, v_str, v_add, v_sub, v_mul, v_fdiv, v_mod, v_cat, v_app, v_neg, v_lt, v_le, v_gt, v_ge, v_eq, v_isN, v_notN, v_in, v_nin, v_inS, v_eqI, v_eqS, v_neI, v_neS, v_lenS, v_lenL, v_lenT, v_repr, v_intI, v_intB, v_abs, v_ty_int_non, v_ty_int_bl, v_ty_int_int, v_ty_int_str, v_ty_int_lst, v_ty_int_tup, v_ty_int_dct, v_ty_bool_non, v_ty_bool_bl, v_ty_bool_int, v_ty_bool_str, v_ty_bool_lst, v_ty_bool_tup, v_ty_bool_dct, v_ty_str_non, v_ty_str_bl, v_ty_str_int, v_ty_str_str, v_ty_str_lst, v_ty_str_tup, v_ty_str_dct, v_ty_list_non, v_ty_list_bl, v_ty_list_int, v_ty_list_str, v_ty_list_lst, v_ty_list_tup, v_ty_list_dct, v_ty_tuple_non, v_ty_tuple_bl, v_ty_tuple_int, v_ty_tuple_str, v_ty_tuple_lst, v_ty_tuple_tup, v_ty_tuple_dct, v_ty_dict_non, v_ty_dict_bl, v_ty_dict_int, v_ty_dict_str, v_ty_dict_lst, v_ty_dict_tup, v_ty_dict_dct, v_isN_non, v_isN_int, v_isN_bl, v_isN_str, v_sliS, v_sliL, v_sliT, v_optN, v_optI, v_meT, v_join, v_walL, v_walT, v_walS, v_rng1, v_rng2, v_enum, v_zip, v_fewF, v_any1, v_any2, Nat.zero_add, Nat.reduceAdd, Nat.reduceLT, Nat.reduceLeDiff, Nat.reduceSub, Nat.reduceEqDiff, le_lim]
theorem set_set_get {S : Sto} {n : Nat} {a : Ob} (h : n < S.length) : (S.set n a)[n]? = some a := by simp [h]
theorem st_s3 (hl : S[lx]? = some (.lst (dRs l))) {i : Nat} {r : List Nat} (hk : k < l.length) (hi : i < l.length) : exB C s3_stepped [e0, a1, some (.r lx), a4, a5, some (.d (.int k)), some (.d (.lst (dI (i :: r)))), a7, a8, a9] S = .ret (.nx, [e0, a1, some (.r lx), a4, a5, some (.d (.int k)), some (.d (.lst (dI (i :: r)))), a7, a8, a9], (S.set lx (.lst (dRs (l.set k (BA.row l i))))).set lx (.lst (dRs (BA.swp [] l k i)))) := by
  have hx : lx < S.length := (List.getElem?_eq_some_iff.mp hl).1
  have h0 : subD (.lst (dI (i :: r))) (.int 0) = some (.int i) := by
    show (match L2.atI (dI (i :: r)) 0 with | some d => some d | none => none) = _
    unfold L2.atI
    rw [ixN_of (by omega) (by rw [dI_len]; simp)]
    rfl
  have e1 : L2.ixN (dRs l).length (k : Int) = some k := ixN_nat (by rw [dRs_len]; exact hk)
  have e2 : L2.ixN (dRs (l.set k (BA.row l i))).length (i : Int) = some i := ixN_nat (by rw [dRs_len, List.length_set]; exact hi)
  have e3 : (S.set lx (.lst (dRs (l.set k (BA.row l i)))))[lx]? = some (.lst (dRs (l.set k (BA.row l i)))) := set_set_get hx
  simp only [s3_stepped, stoXs, stoX, exB, evE, evL, tstE, M.bnd, opt_some, bnd_ret, opt_bnd, mapO, List.length_cons, List.length_nil, List.map_cons, List.map_nil, List.replicate, List.getElem?_cons_zero, List.getElem?_cons_succ, List.cons_append, List.nil_append, if_true, if_false, Bool.false_eq_true, Nat.sub_self, Bool.true_and, Bool.and_true, Bool.false_and, Bool.and_false, Bool.not_true, Bool.not_false, Bool.or_false, Bool.false_or, Bool.true_or, Bool.or_true, decide_true, decide_false, Option.map_some, permD, setW, List.set_cons_zero, List.set_cons_succ, bindP, bindPs, v_rd, v_dat, v_non, v_bl, v_int, v_lst, v_tup, v_str, v_add, v_sub, v_mul, v_fdiv, v_mod, v_cat, v_app, v_neg, v_lt, v_le, v_gt, v_ge, v_eq, v_isN, v_notN, v_in, v_nin, v_inS, v_eqI, v_eqS, v_neI, v_neS, v_lenS, v_lenL, v_lenT, v_repr, v_intI, v_intB, v_abs, v_ty_int_non, v_ty_int_bl, v_ty_int_int, v_ty_int_str, v_ty_int_lst, v_ty_int_tup, v_ty_int_dct, v_ty_bool_non, v_ty_bool_bl, v_ty_bool_int, v_ty_bool_str, v_ty_bool_lst, v_ty_bool_tup, v_ty_bool_dct, v_ty_str_non, v_ty_str_bl, v_ty_str_int, v_ty_str_str, v_ty_str_lst, v_ty_str_tup, v_ty_str_dct, v_ty_list_non, v_ty_list_bl, v_ty_list_int, v_ty_list_str, v_ty_list_lst, v_ty_list_tup, v_ty_list_dct, v_ty_tuple_non, v_ty_tuple_bl, v_ty_tuple_int, v_ty_tuple_str, v_ty_tuple_lst, v_ty_tuple_tup, v_ty_tuple_dct, v_ty_dict_non, v_ty_dict_bl, v_ty_dict_int, v_ty_dict_str, v_ty_dict_lst, v_ty_dict_tup, v_ty_dict_dct, v_isN_non, v_isN_int, v_isN_bl, v_isN_str, v_sliS, v_sliL, v_sliT, v_optN, v_optI, v_meT, v_join, v_walL, v_walT, v_walS, v_rng1, v_rng2, v_enum, v_zip, v_fewF, v_any1, v_any2, Nat.zero_add, Nat.reduceAdd, Nat.reduceLT, Nat.reduceLeDiff, Nat.reduceSub, Nat.reduceEqDiff, le_lim, rd_r hl, h0, atI_row hk, atI_row hi, hl, e1, dRs_set, e3, rd_r e3, e2, row_set]
theorem st_s4 (hl : S[lx]? = some (.lst (dRs l))) (hk : k < l.length) : exB C s4_stepped [e0, a1, some (.r lx), a4, a5, some (.d (.int k)), a6, a7, a8, a9] S = .ret (.nx, [e0, a1, some (.r lx), a4, a5, some (.d (.int k)), a6, some (.d (dR (BA.row l k))), a8, a9], S) := by
  simp only [s4_stepped, exB, evE, evL, tstE, M.bnd, opt_some, bnd_ret, opt_bnd, mapO, List.length_cons, List.length_nil, List.map_cons, List.map_nil, List.replicate, List.getElem?_cons_zero, List.getElem?_cons_succ, List.cons_append, List.nil_append, if_true, if_false, Bool.false_eq_true, Nat.sub_self, Bool.true_and, Bool.and_true, Bool.false_and, Bool.and_false, Bool.not_true, Bool.not_false, Bool.or_false, Bool.false_or, Bool.true_or, Bool.or_true, decide_true, decide_false, Option.map_some, permD, setW, List.set_cons_zero, List.set_cons_succ, bindP, bindPs, v_rd, v_dat, v_non, v_bl, v_int, v_lst, v_tup, v_str, v_add, v_sub, v_mul, v_fdiv, v_mod, v_cat, v_app, v_neg, v_lt, v_le, v_gt, v_ge, v_eq, v_isN, v_notN, v_in, v_nin, v_inS, v_eqI, v_eqS, v_neI, v_neS, v_lenS, v_lenL, v_lenT, v_repr, v_intI, v_intB, v_abs, v_ty_int_non, v_ty_int_bl, v_ty_int_int, v_ty_int_str, v_ty_int_lst, v_ty_int_tup, v_ty_int_dct, v_ty_bool_non, v_ty_bool_bl, v_ty_bool_int, v_ty_bool_str, v_ty_bool_lst, v_ty_bool_tup, v_ty_bool_dct, v_ty_str_non, v_ty_str_bl, v_ty_str_int, v_ty_str_str, v_ty_str_lst, v_ty_str_tup, v_ty_str_dct, v_ty_list_non, v_ty_list_bl, v_ty_list_int, v_ty_list_str, v_ty_list_lst, v_ty_list_tup, v_ty_list_dct, v_ty_tuple_non, v_ty_tuple_bl, v_ty_tuple_int, v_ty_tuple_str, v_ty_tuple_lst, v_ty_tuple_tup, v_ty_tuple_dct, v_ty_dict_non, v_ty_dict_bl, v_ty_dict_int, v_ty_dict_str, v_ty_dict_lst, v_ty_dict_tup, v_ty_dict_dct, v_isN_non, v_isN_int, v_isN_bl, v_isN_str, v_sliS, v_sliL, v_sliT, v_optN, v_optI, v_meT, v_join, v_walL, v_walT, v_walS, v_rng1, v_rng2, v_enum, v_zip, v_fewF, v_any1, v_any2, Nat.zero_add, Nat.reduceAdd, Nat.reduceLT, Nat.reduceLeDiff, Nat.reduceSub, Nat.reduceEqDiff, le_lim, rd_r hl, atI_row hk]
end
theorem enumD_map : ∀ (l : BA.Rows) (k : Nat), enumD (k : Int) (dRs l) = (l.zipIdx k).map fun p => .tup [.int (p.2 : Nat), dR p.1]
  | [], k => rfl
  | r :: l, k => by
    show D.tup [.int (k : Int), dR r] :: enumD ((k : Int) + 1) (dRs l) = _
    rw [List.zipIdx_cons, List.map_cons, ← enumD_map l (k + 1)]
    rfl
theorem clrs_zip (k : Nat) (t : List Int) (c : Nat) (d : Int) : ∀ (l : BA.Rows) (i : Nat), (l.zipIdx i).map (fun p => dR (if p.2 = k then p.1 else BA.clr p.1 t c d)) = dRs (BA.clrs k t c d i l)
  | [], i => rfl
  | r :: l, i => by
    rw [List.zipIdx_cons, List.map_cons, clrs_zip k t c d l (i + 1)]
    rfl
section
variable {n : Nat} {rows l : BA.Rows} {S : Sto} {lx ix j k d b m : Nat} {e0 a1 a4 a5 a6 a7 a8 a9 : Option W} {dv : Int} {lds : List Nat} {line : List Int}
theorem st_s5 (hl : S[lx]? = some (.lst (dRs l))) (hm : ∀ r ∈ l, r.length = m) (hlm : line.length = m) (hj : j < m) (hm2 : m ≤ 1000) (hlen : l.length ≤ 1000) (hb : ∀ r ∈ l, Sm b r) (hbl : Sm b line) (hd : dv ≠ 0) (hdb : dv.natAbs < 2 ^ b) (h0 : 0 < b) (h9 : b ≤ 9000) :
    exB (run tbl.T (n + 1)) s5_stepped [e0, some (.d (.int j)), some (.r lx), a4, some (.d (.int dv)), some (.d (.int k)), a6, some (.d (dR line)), a8, a9] S = .ret (.nx, [e0, some (.d (.int j)), some (.r S.length), a4, some (.d (.int dv)), some (.d (.int k)), a6, some (.d (dR line)), a8, a9], S.set lx .dead ++ [.lst (dRs (BA.clrs k line j dv 0 l))]) := by
  have q := ev_of (C := run tbl.T (n + 1)) (m := true) (chk := false) (pt := .cons (.name 9) (.cons (.name 8) .nil)) (k := .enum) (src := .cons (.frz (.var 2)) .nil) (cond := .dat (.bl true)) (elt := .ite (.cmp .eq (.var 9) (.var 5)) (.var 8) (.call 3 (.cons (.var 8) (.cons (.var 7) (.cons (.var 1) (.cons (.var 4) (.nil)))))))
    (env := [e0, some (.d (.int j)), some (.r lx), a4, some (.d (.int dv)), some (.d (.int k)), a6, some (.d (dR line)), a8, a9]) (S := S) (S1 := S.set lx .dead) (ws := [.d (.lst (dRs l))]) (ds := [.lst (dRs l)]) (l.zipIdx 0) (fun p => .tup [.int (p.2 : Nat), dR p.1]) (fun p => some (dR (if p.2 = k then p.1 else BA.clr p.1 line j dv))) (by simp only [exB, evE, evL, tstE, M.bnd, opt_some, bnd_ret, opt_bnd, mapO, List.length_cons, List.length_nil, List.map_cons, List.map_nil, List.replicate, List.getElem?_cons_zero, List.getElem?_cons_succ, List.cons_append, List.nil_append, if_true, if_false, Bool.false_eq_true, Nat.sub_self, Bool.true_and, Bool.and_true, Bool.false_and, Bool.and_false, Bool.not_true, Bool.not_false, Bool.or_false, Bool.false_or, Bool.true_or, Bool.or_true, decide_true, decide_false, Option.map_some, permD, setW, List.set_cons_zero, List.set_cons_succ, bindP, bindPs, v_rd, v_dat, v_non, v_bl, v_int, v_lst, v_tup, v_str, v_add, v_sub, v_mul, v_fdiv, v_mod, v_cat, v_app, v_neg, v_lt, v_le, v_gt, v_ge, v_eq, v_isN, v_notN, v_in, v_nin, v_inS, v_eqI, v_eqS, v_neI, v_neS, v_lenS, v_lenL, v_lenT, v_repr, v_intI, v_intB, v_abs, v_ty_int_non, v_ty_int_bl, v_ty_int_int, v_ty_int_str, v_ty_int_lst, v_ty_int_tup, v_ty_int_dct, v_ty_bool_non, v_ty_bool_bl, v_ty_bool_int, v_ty_bool_str, v_ty_bool_lst, v_ty_bool_tup, v_ty_bool_dct, v_ty_str_non, v_ty_str_bl, v_ty_str_int, v_ty_str_str, v_ty_str_lst, v_ty_str_tup, v_ty_str_dct, v_ty_list_non, v_ty_list_bl, v_ty_list_int, v_ty_list_str, v_ty_list_lst, v_ty_list_tup, v_ty_list_dct, v_ty_tuple_non, v_ty_tuple_bl, v_ty_tuple_int, v_ty_tuple_str, v_ty_tuple_lst, v_ty_tuple_tup, v_ty_tuple_dct, v_ty_dict_non, v_ty_dict_bl, v_ty_dict_int, v_ty_dict_str, v_ty_dict_lst, v_ty_dict_tup, v_ty_dict_dct, v_isN_non, v_isN_int, v_isN_bl, v_isN_str, v_sliS, v_sliL, v_sliT, v_optN, v_optI, v_meT, v_join, v_walL, v_walT, v_walS, v_rng1, v_rng2, v_enum, v_zip, v_fewF, v_any1, v_any2, Nat.zero_add, Nat.reduceAdd, Nat.reduceLT, Nat.reduceLeDiff, Nat.reduceSub, Nat.reduceEqDiff, le_lim, hl]) rfl (by
      show some (enumD 0 (dRs l)) = _
      rw [← enumD_map]
      rfl) rfl (by rw [List.length_zipIdx]; unfold lim; omega) fun p hp => by
        have hr : p.1 ∈ l := List.fst_mem_of_mem_zipIdx hp
        refine ⟨_, by simp only [exB, evE, evL, tstE, M.bnd, opt_some, bnd_ret, opt_bnd, mapO, List.length_cons, List.length_nil, List.map_cons, List.map_nil, List.replicate, List.getElem?_cons_zero, List.getElem?_cons_succ, List.cons_append, List.nil_append, if_true, if_false, Bool.false_eq_true, Nat.sub_self, Bool.true_and, Bool.and_true, Bool.false_and, Bool.and_false, Bool.not_true, Bool.not_false, Bool.or_false, Bool.false_or, Bool.true_or, Bool.or_true, decide_true, decide_false, Option.map_some, permD, setW, List.set_cons_zero, List.set_cons_succ, bindP, bindPs, v_rd, v_dat, v_non, v_bl, v_int, v_lst, v_tup, v_str, v_add, v_sub, v_mul, v_fdiv, v_mod, v_cat, v_app, v_neg, v_lt, v_le, v_gt, v_ge, v_eq, v_isN, v_notN, v_in, v_nin, v_inS, v_eqI, v_eqS, v_neI, v_neS, v_lenS, v_lenL, v_lenT, v_repr, v_intI, v_intB, v_abs, v_ty_int_non, v_ty_int_bl, v_ty_int_int, v_ty_int_str, v_ty_int_lst, v_ty_int_tup, v_ty_int_dct, v_ty_bool_non, v_ty_bool_bl, v_ty_bool_int, v_ty_bool_str, v_ty_bool_lst, v_ty_bool_tup, v_ty_bool_dct, v_ty_str_non, v_ty_str_bl, v_ty_str_int, v_ty_str_str, v_ty_str_lst, v_ty_str_tup, v_ty_str_dct, v_ty_list_non, v_ty_list_bl, v_ty_list_int, v_ty_list_str, v_ty_list_lst, v_ty_list_tup, v_ty_list_dct, v_ty_tuple_non, v_ty_tuple_bl, v_ty_tuple_int, v_ty_tuple_str, v_ty_tuple_lst, v_ty_tuple_tup, v_ty_tuple_dct, v_ty_dict_non, v_ty_dict_bl, v_ty_dict_int, v_ty_dict_str, v_ty_dict_lst, v_ty_dict_tup, v_ty_dict_dct, v_isN_non, v_isN_int, v_isN_bl, v_isN_str, v_sliS, v_sliL, v_sliT, v_optN, v_optI, v_meT, v_join, v_walL, v_walT, v_walS, v_rng1, v_rng2, v_enum, v_zip, v_fewF, v_any1, v_any2, Nat.zero_add, Nat.reduceAdd, Nat.reduceLT, Nat.reduceLeDiff, Nat.reduceSub, Nat.reduceEqDiff, le_lim]; rfl, el_yes ?_⟩
        by_cases hk : p.2 = k
        · have e1 : ((p.2 : Int) == (k : Int)) = true := by simp [hk]
          simp only [exB, evE, evL, tstE, M.bnd, opt_some, bnd_ret, opt_bnd, mapO, List.length_cons, List.length_nil, List.map_cons, List.map_nil, List.replicate, List.getElem?_cons_zero, List.getElem?_cons_succ, List.cons_append, List.nil_append, if_true, if_false, Bool.false_eq_true, Nat.sub_self, Bool.true_and, Bool.and_true, Bool.false_and, Bool.and_false, Bool.not_true, Bool.not_false, Bool.or_false, Bool.false_or, Bool.true_or, Bool.or_true, decide_true, decide_false, Option.map_some, permD, setW, List.set_cons_zero, List.set_cons_succ, bindP, bindPs, v_rd, v_dat, v_non, v_bl, v_int, v_lst, v_tup, v_str, v_add, v_sub, v_mul, v_fdiv, v_mod, v_cat, v_app, v_neg, v_lt, v_le, v_gt, v_ge, v_eq, v_isN, v_notN, v_in, v_nin, v_inS, v_eqI, v_eqS, v_neI, v_neS, v_lenS, v_lenL, v_lenT, v_repr, v_intI, v_intB, v_abs, v_ty_int_non, v_ty_int_bl, v_ty_int_int, v_ty_int_str, v_ty_int_lst, v_ty_int_tup, v_ty_int_dct, v_ty_bool_non, v_ty_bool_bl, v_ty_bool_int, v_ty_bool_str, v_ty_bool_lst, v_ty_bool_tup, v_ty_bool_dct, v_ty_str_non, v_ty_str_bl, v_ty_str_int, v_ty_str_str, v_ty_str_lst, v_ty_str_tup, v_ty_str_dct, v_ty_list_non, v_ty_list_bl, v_ty_list_int, v_ty_list_str, v_ty_list_lst, v_ty_list_tup, v_ty_list_dct, v_ty_tuple_non, v_ty_tuple_bl, v_ty_tuple_int, v_ty_tuple_str, v_ty_tuple_lst, v_ty_tuple_tup, v_ty_tuple_dct, v_ty_dict_non, v_ty_dict_bl, v_ty_dict_int, v_ty_dict_str, v_ty_dict_lst, v_ty_dict_tup, v_ty_dict_dct, v_isN_non, v_isN_int, v_isN_bl, v_isN_str, v_sliS, v_sliL, v_sliT, v_optN, v_optI, v_meT, v_join, v_walL, v_walT, v_walS, v_rng1, v_rng2, v_enum, v_zip, v_fewF, v_any1, v_any2, Nat.zero_add, Nat.reduceAdd, Nat.reduceLT, Nat.reduceLeDiff, Nat.reduceSub, Nat.reduceEqDiff, le_lim, e1, if_pos hk]
        · have e1 : ((p.2 : Int) == (k : Int)) = false := by simp; omega
          have e2 := r_clr n (c := j) (hb _ hr) hbl (by rw [hm _ hr, hlm]) (by rw [hm _ hr]; exact hj) hd hdb h0 h9 (by rw [hm _ hr]; exact hm2)
          simp only [exB, evE, evL, tstE, M.bnd, opt_some, bnd_ret, opt_bnd, mapO, List.length_cons, List.length_nil, List.map_cons, List.map_nil, List.replicate, List.getElem?_cons_zero, List.getElem?_cons_succ, List.cons_append, List.nil_append, if_true, if_false, Bool.false_eq_true, Nat.sub_self, Bool.true_and, Bool.and_true, Bool.false_and, Bool.and_false, Bool.not_true, Bool.not_false, Bool.or_false, Bool.false_or, Bool.true_or, Bool.or_true, decide_true, decide_false, Option.map_some, permD, setW, List.set_cons_zero, List.set_cons_succ, bindP, bindPs, v_rd, v_dat, v_non, v_bl, v_int, v_lst, v_tup, v_str, v_add, v_sub, v_mul, v_fdiv, v_mod, v_cat, v_app, v_neg, v_lt, v_le, v_gt, v_ge, v_eq, v_isN, v_notN, v_in, v_nin, v_inS, v_eqI, v_eqS, v_neI, v_neS, v_lenS, v_lenL, v_lenT, v_repr, v_intI, v_intB, v_abs, v_ty_int_non, v_ty_int_bl, v_ty_int_int, v_ty_int_str, v_ty_int_lst, v_ty_int_tup, v_ty_int_dct, v_ty_bool_non, v_ty_bool_bl, v_ty_bool_int, v_ty_bool_str, v_ty_bool_lst, v_ty_bool_tup, v_ty_bool_dct, v_ty_str_non, v_ty_str_bl, v_ty_str_int, v_ty_str_str, v_ty_str_lst, v_ty_str_tup, v_ty_str_dct, v_ty_list_non, v_ty_list_bl, v_ty_list_int, v_ty_list_str, v_ty_list_lst, v_ty_list_tup, v_ty_list_dct, v_ty_tuple_non, v_ty_tuple_bl, v_ty_tuple_int, v_ty_tuple_str, v_ty_tuple_lst, v_ty_tuple_tup, v_ty_tuple_dct, v_ty_dict_non, v_ty_dict_bl, v_ty_dict_int, v_ty_dict_str, v_ty_dict_lst, v_ty_dict_tup, v_ty_dict_dct, v_isN_non, v_isN_int, v_isN_bl, v_isN_str, v_sliS, v_sliL, v_sliT, v_optN, v_optI, v_meT, v_join, v_walL, v_walT, v_walS, v_rng1, v_rng2, v_enum, v_zip, v_fewF, v_any1, v_any2, Nat.zero_add, Nat.reduceAdd, Nat.reduceLT, Nat.reduceLeDiff, Nat.reduceSub, Nat.reduceEqDiff, le_lim, e1, if_neg hk, e2]
  simp only [s5_stepped, exB, k2_stepped]
  rw [q, fm_some, clrs_zip]
  simp only [exB, evE, evL, tstE, M.bnd, opt_some, bnd_ret, opt_bnd, mapO, List.length_cons, List.length_nil, List.map_cons, List.map_nil, List.replicate, List.getElem?_cons_zero, List.getElem?_cons_succ, List.cons_append, List.nil_append, if_true, if_false, Bool.false_eq_true, Nat.sub_self, Bool.true_and, Bool.and_true, Bool.false_and, Bool.and_false, Bool.not_true, Bool.not_false, Bool.or_false, Bool.false_or, Bool.true_or, Bool.or_true, decide_true, decide_false, Option.map_some, permD, setW, List.set_cons_zero, List.set_cons_succ, bindP, bindPs, v_rd, v_dat, v_non, v_bl, v_int, v_lst, v_tup, v_str, v_add, v_sub, v_mul, v_fdiv, v_mod, v_cat, v_app, v_neg, v_lt, v_le, v_gt, v_ge, v_eq, v_isN, v_notN, v_in, v_nin, v_inS, v_eqI, v_eqS, v_neI, v_neS, v_lenS, v_lenL, v_lenT, v_repr, v_intI, v_intB, v_abs, v_ty_int_non, v_ty_int_bl, v_ty_int_int, v_ty_int_str, v_ty_int_lst, v_ty_int_tup, v_ty_int_dct, v_ty_bool_non, v_ty_bool_bl, v_ty_bool_int, v_ty_bool_str, v_ty_bool_lst, v_ty_bool_tup, v_ty_bool_dct, v_ty_str_non, v_ty_str_bl, v_ty_str_int, v_ty_str_str, v_ty_str_lst, v_ty_str_tup, v_ty_str_dct, v_ty_list_non, v_ty_list_bl, v_ty_list_int, v_ty_list_str, v_ty_list_lst, v_ty_list_tup, v_ty_list_dct, v_ty_tuple_non, v_ty_tuple_bl, v_ty_tuple_int, v_ty_tuple_str, v_ty_tuple_lst, v_ty_tuple_tup, v_ty_tuple_dct, v_ty_dict_non, v_ty_dict_bl, v_ty_dict_int, v_ty_dict_str, v_ty_dict_lst, v_ty_dict_tup, v_ty_dict_dct, v_isN_non, v_isN_int, v_isN_bl, v_isN_str, v_sliS, v_sliL, v_sliT, v_optN, v_optI, v_meT, v_join, v_walL, v_walT, v_walS, v_rng1, v_rng2, v_enum, v_zip, v_fewF, v_any1, v_any2, Nat.zero_add, Nat.reduceAdd, Nat.reduceLT, Nat.reduceLeDiff, Nat.reduceSub, Nat.reduceEqDiff, le_lim, List.length_set]
theorem st_s6 {C : Calls} (hd : S[ix]? = some (.lst (dI lds))) (hlen : lds.length ≤ 1000) : exB C s6_stepped [e0, some (.d (.int j)), a1, some (.r ix), a4, a5, a6, a7, a8, a9] S = .ret (.nx, [e0, some (.d (.int j)), a1, some (.r ix), a4, a5, a6, a7, a8, a9], S.set ix (.lst (dI (lds ++ [j])))) := by
  have e : (dI lds).length < lim := by rw [dI_len]; unfold lim; omega
  have e2 : dI lds ++ [.int (j : Int)] = dI (lds ++ [j]) := by simp [dI]
  simp only [s6_stepped, exB, evE, evL, tstE, M.bnd, opt_some, bnd_ret, opt_bnd, mapO, List.length_cons, List.length_nil, List.map_cons, List.map_nil, List.replicate, List.getElem?_cons_zero, List.getElem?_cons_succ, List.cons_append, List.nil_append, if_true, if_false, Bool.false_eq_true, Nat.sub_self, Bool.true_and, Bool.and_true, Bool.false_and, Bool.and_false, Bool.not_true, Bool.not_false, Bool.or_false, Bool.false_or, Bool.true_or, Bool.or_true, decide_true, decide_false, Option.map_some, permD, setW, List.set_cons_zero, List.set_cons_succ, bindP, bindPs, v_rd, v_dat, v_non, v_bl, v_int, v_lst, v_tup, v_str, v_add, v_sub, v_mul, v_fdiv, v_mod, v_cat, v_app, v_neg, v_lt, v_le, v_gt, v_ge, v_eq, v_isN, v_notN, v_in, v_nin, v_inS, v_eqI, v_eqS, v_neI, v_neS, v_lenS, v_lenL, v_lenT, v_repr, v_intI, v_intB, v_abs, v_ty_int_non, v_ty_int_bl, v_ty_int_int, v_ty_int_str, v_ty_int_lst, v_ty_int_tup, v_ty_int_dct, v_ty_bool_non, v_ty_bool_bl, v_ty_bool_int, v_ty_bool_str, v_ty_bool_lst, v_ty_bool_tup, v_ty_bool_dct, v_ty_str_non, v_ty_str_bl, v_ty_str_int, v_ty_str_str, v_ty_str_lst, v_ty_str_tup, v_ty_str_dct, v_ty_list_non, v_ty_list_bl, v_ty_list_int, v_ty_list_str, v_ty_list_lst, v_ty_list_tup, v_ty_list_dct, v_ty_tuple_non, v_ty_tuple_bl, v_ty_tuple_int, v_ty_tuple_str, v_ty_tuple_lst, v_ty_tuple_tup, v_ty_tuple_dct, v_ty_dict_non, v_ty_dict_bl, v_ty_dict_int, v_ty_dict_str, v_ty_dict_lst, v_ty_dict_tup, v_ty_dict_dct, v_isN_non, v_isN_int, v_isN_bl, v_isN_str, v_sliS, v_sliL, v_sliT, v_optN, v_optI, v_meT, v_join, v_walL, v_walT, v_walS, v_rng1, v_rng2, v_enum, v_zip, v_fewF, v_any1, v_any2, Nat.zero_add, Nat.reduceAdd, Nat.reduceLT, Nat.reduceLeDiff, Nat.reduceSub, Nat.reduceEqDiff, le_lim, hd, e, e2]
theorem st_s7 {C : Calls} (hj : j < line.length) : exB C s7_stepped [e0, some (.d (.int j)), a1, a4, a9, a5, a6, some (.d (dR line)), a8, a7] S = .ret (.nx, [e0, some (.d (.int j)), a1, a4, some (.d (.int (BA.cell line j))), a5, a6, some (.d (dR line)), a8, a7], S) := by
  simp only [s7_stepped, exB, evE, evL, tstE, M.bnd, opt_some, bnd_ret, opt_bnd, mapO, List.length_cons, List.length_nil, List.map_cons, List.map_nil, List.replicate, List.getElem?_cons_zero, List.getElem?_cons_succ, List.cons_append, List.nil_append, if_true, if_false, Bool.false_eq_true, Nat.sub_self, Bool.true_and, Bool.and_true, Bool.false_and, Bool.and_false, Bool.not_true, Bool.not_false, Bool.or_false, Bool.false_or, Bool.true_or, Bool.or_true, decide_true, decide_false, Option.map_some, permD, setW, List.set_cons_zero, List.set_cons_succ, bindP, bindPs, v_rd, v_dat, v_non, v_bl, v_int, v_lst, v_tup, v_str, v_add, v_sub, v_mul, v_fdiv, v_mod, v_cat, v_app, v_neg, v_lt, v_le, v_gt, v_ge, v_eq, v_isN, v_notN, v_in, v_nin, v_inS, v_eqI, v_eqS, v_neI, v_neS, v_lenS, v_lenL, v_lenT, v_repr, v_intI, v_intB, v_abs, v_ty_int_non, v_ty_int_bl, v_ty_int_int, v_ty_int_str, v_ty_int_lst, v_ty_int_tup, v_ty_int_dct, v_ty_bool_non, v_ty_bool_bl, v_ty_bool_int, v_ty_bool_str, v_ty_bool_lst, v_ty_bool_tup, v_ty_bool_dct, v_ty_str_non, v_ty_str_bl, v_ty_str_int, v_ty_str_str, v_ty_str_lst, v_ty_str_tup, v_ty_str_dct, v_ty_list_non, v_ty_list_bl, v_ty_list_int, v_ty_list_str, v_ty_list_lst, v_ty_list_tup, v_ty_list_dct, v_ty_tuple_non, v_ty_tuple_bl, v_ty_tuple_int, v_ty_tuple_str, v_ty_tuple_lst, v_ty_tuple_tup, v_ty_tuple_dct, v_ty_dict_non, v_ty_dict_bl, v_ty_dict_int, v_ty_dict_str, v_ty_dict_lst, v_ty_dict_tup, v_ty_dict_dct, v_isN_non, v_isN_int, v_isN_bl, v_isN_str, v_sliS, v_sliL, v_sliT, v_optN, v_optI, v_meT, v_join, v_walL, v_walT, v_walS, v_rng1, v_rng2, v_enum, v_zip, v_fewF, v_any1, v_any2, Nat.zero_add, Nat.reduceAdd, Nat.reduceLT, Nat.reduceLeDiff, Nat.reduceSub, Nat.reduceEqDiff, le_lim, atI_cell hj]
end
end RL.T
end

section
set_option Elab.async false
set_option linter.all false
set_option maxRecDepth 100000
set_option maxHeartbeats 400000
namespace RL.T
open PySem L2
theorem sm_of {b : Nat} {r : List Int} (h : ∀ x, (BA.cell r x).natAbs < 2 ^ b) : Sm b r := fun p hp => by
  obtain ⟨i, hi, e⟩ := List.getElem_of_mem hp
  have := h i
  unfold BA.cell at this
  rw [BA.getD_at hi, e] at this
  exact this
/-- what must hold for the program's steps to be let -/
structure Good (b m : Nat) (rows : BA.Rows) : Prop where
  len : ∀ r ∈ rows, r.length = m
  few : rows.length ≤ 100
  wide : m ≤ 100
  fine : ∀ j, BA.Fine b (BA.runS rows j).left (BA.runS rows j).d
  b0 : 0 < b
  b9 : b ≤ 9000
section
variable {n b m j : Nat} {rows : BA.Rows} {env : EnvD} {S : Sto}
theorem st_turn (g : Good b m rows) (hj : j < m) {a1 : Option W} (hI : IS rows [] j env S) : ∃ env' env2 S2, bindP (.name 1) (.int (j : Int)) env = some env' ∧ exB (run tbl.T (n + 1)) y1_stepped env' S = .ret (.nx, env2, S2) ∧ IS rows [] (j + 1) env2 S2 := by
  obtain ⟨⟨lx, b1, a5, a6, a7, a8, a9, rfl, hS, hne⟩, hld⟩ := hI
  have hS1 : S[1]? = some (.lst (dI (BA.runS rows j).lds)) := hld
  have hne : lx ≠ 1 := hne
  obtain ⟨sh1, sh2, sh3⟩ := BA.runS_shape g.len j
  obtain ⟨f1, f2, f3⟩ := g.fine j
  have few := g.few
  have wide := g.wide
  have hx : lx < S.length := (List.getElem?_eq_some_iff.mp hS).1
  have h1 : 1 < S.length := (List.getElem?_eq_some_iff.mp hS1).1
  refine ⟨[some (.d (.lst (dRs rows))), some (.d (.int j)), some (.r lx), some (.r 1), some (.d (.int (BA.runS rows j).d)), a5, a6, a7, a8, a9], ?_⟩
  unfold y1_stepped
  rw [sq (st_s1 hS1), sq (st_s2 hS (by omega) (by omega) fun r hr => by rw [sh2 r hr]; exact hj)]
  have stp : BA.runS rows (j + 1) = BA.stepS (BA.runS rows j) j := rfl
  unfold BA.stepS at stp
  cases e : BA.spots (BA.runS rows j).left j (BA.runS rows j).lds.length ((BA.runS rows j).left.length - (BA.runS rows j).lds.length) with
  | nil =>
    rw [e] at stp
    simp only at stp
    refine ⟨_, S, by simp only [exB, evE, evL, tstE, M.bnd, opt_some, bnd_ret, opt_bnd, mapO, List.length_cons, List.length_nil, List.map_cons, List.map_nil, List.replicate, List.getElem?_cons_zero, List.getElem?_cons_succ, List.cons_append, List.nil_append, if_true, if_false, Bool.false_eq_true, Nat.sub_self, Bool.true_and, Bool.and_true, Bool.false_and, Bool.and_false, Bool.not_true, Bool.not_false, Bool.or_false, Bool.false_or, Bool.true_or, Bool.or_true, decide_true, decide_false, Option.map_some, permD, setW, List.set_cons_zero, List.set_cons_succ, bindP, bindPs, v_rd, v_dat, v_non, v_bl, v_int, v_lst, v_tup, v_str, v_add, v_sub, v_mul, v_fdiv, v_mod, v_cat, v_app, v_neg, v_lt, v_le, v_gt, v_ge, v_eq, v_isN, v_notN, v_in, v_nin, v_inS, v_eqI, v_eqS, v_neI, v_neS, v_lenS, v_lenL, v_lenT, v_repr, v_intI, v_intB, v_abs, v_ty_int_non, v_ty_int_bl, v_ty_int_int, v_ty_int_str, v_ty_int_lst, v_ty_int_tup, v_ty_int_dct, v_ty_bool_non, v_ty_bool_bl, v_ty_bool_int, v_ty_bool_str, v_ty_bool_lst, v_ty_bool_tup, v_ty_bool_dct, v_ty_str_non, v_ty_str_bl, v_ty_str_int, v_ty_str_str, v_ty_str_lst, v_ty_str_tup, v_ty_str_dct, v_ty_list_non, v_ty_list_bl, v_ty_list_int, v_ty_list_str, v_ty_list_lst, v_ty_list_tup, v_ty_list_dct, v_ty_tuple_non, v_ty_tuple_bl, v_ty_tuple_int, v_ty_tuple_str, v_ty_tuple_lst, v_ty_tuple_tup, v_ty_tuple_dct, v_ty_dict_non, v_ty_dict_bl, v_ty_dict_int, v_ty_dict_str, v_ty_dict_lst, v_ty_dict_tup, v_ty_dict_dct, v_isN_non, v_isN_int, v_isN_bl, v_isN_str, v_sliS, v_sliL, v_sliT, v_optN, v_optI, v_meT, v_join, v_walL, v_walT, v_walS, v_rng1, v_rng2, v_enum, v_zip, v_fewF, v_any1, v_any2, Nat.zero_add, Nat.reduceAdd, Nat.reduceLT, Nat.reduceLeDiff, Nat.reduceSub, Nat.reduceEqDiff, le_lim], sq1 ?_, ⟨lx, some (.d (.int j)), some (.d (.int ((BA.runS rows j).lds.length : Nat))), some (.d (.lst (dI []))), a7, a8, a9, rfl, ?_, hne⟩, ?_⟩
    · rw [s8_stepped, ife_of (k := false) (by simp only [exB, evE, evL, tstE, M.bnd, opt_some, bnd_ret, opt_bnd, mapO, List.length_cons, List.length_nil, List.map_cons, List.map_nil, List.replicate, List.getElem?_cons_zero, List.getElem?_cons_succ, List.cons_append, List.nil_append, if_true, if_false, Bool.false_eq_true, Nat.sub_self, Bool.true_and, Bool.and_true, Bool.false_and, Bool.and_false, Bool.not_true, Bool.not_false, Bool.or_false, Bool.false_or, Bool.true_or, Bool.or_true, decide_true, decide_false, Option.map_some, permD, setW, List.set_cons_zero, List.set_cons_succ, bindP, bindPs, v_rd, v_dat, v_non, v_bl, v_int, v_lst, v_tup, v_str, v_add, v_sub, v_mul, v_fdiv, v_mod, v_cat, v_app, v_neg, v_lt, v_le, v_gt, v_ge, v_eq, v_isN, v_notN, v_in, v_nin, v_inS, v_eqI, v_eqS, v_neI, v_neS, v_lenS, v_lenL, v_lenT, v_repr, v_intI, v_intB, v_abs, v_ty_int_non, v_ty_int_bl, v_ty_int_int, v_ty_int_str, v_ty_int_lst, v_ty_int_tup, v_ty_int_dct, v_ty_bool_non, v_ty_bool_bl, v_ty_bool_int, v_ty_bool_str, v_ty_bool_lst, v_ty_bool_tup, v_ty_bool_dct, v_ty_str_non, v_ty_str_bl, v_ty_str_int, v_ty_str_str, v_ty_str_lst, v_ty_str_tup, v_ty_str_dct, v_ty_list_non, v_ty_list_bl, v_ty_list_int, v_ty_list_str, v_ty_list_lst, v_ty_list_tup, v_ty_list_dct, v_ty_tuple_non, v_ty_tuple_bl, v_ty_tuple_int, v_ty_tuple_str, v_ty_tuple_lst, v_ty_tuple_tup, v_ty_tuple_dct, v_ty_dict_non, v_ty_dict_bl, v_ty_dict_int, v_ty_dict_str, v_ty_dict_lst, v_ty_dict_tup, v_ty_dict_dct, v_isN_non, v_isN_int, v_isN_bl, v_isN_str, v_sliS, v_sliL, v_sliT, v_optN, v_optI, v_meT, v_join, v_walL, v_walT, v_walS, v_rng1, v_rng2, v_enum, v_zip, v_fewF, v_any1, v_any2, Nat.zero_add, Nat.reduceAdd, Nat.reduceLT, Nat.reduceLeDiff, Nat.reduceSub, Nat.reduceEqDiff, le_lim, v_neL, eqI_nil]; rfl), if_neg Bool.false_ne_true, sq0, stp]
      rfl
    · rw [stp]; exact hS
    · rw [stp]; exact hS1
  | cons i r =>
    rw [e] at stp
    simp only at stp
    obtain ⟨i', hi1, hi2, _⟩ := BA.spots_cons e
    have hi : i < (BA.runS rows j).left.length := by omega
    have hk : (BA.runS rows j).lds.length < (BA.runS rows j).left.length := by omega
    have m1 : ∀ r ∈ BA.swp [] (BA.runS rows j).left (BA.runS rows j).lds.length i, r ∈ (BA.runS rows j).left := fun r hr => BA.swp_mem hk hi hr
    have l1 : (BA.swp [] (BA.runS rows j).left (BA.runS rows j).lds.length i).length = (BA.runS rows j).left.length := BA.swp_length
    have t1 := m1 _ (BA.row_mem (i := (BA.runS rows j).lds.length) (by rw [l1]; exact hk))
    have q3 : ((S.set lx (.lst (dRs ((BA.runS rows j).left.set (BA.runS rows j).lds.length (BA.row (BA.runS rows j).left i))))).set lx (.lst (dRs (BA.swp [] (BA.runS rows j).left (BA.runS rows j).lds.length i))))[lx]? = some (.lst (dRs (BA.swp [] (BA.runS rows j).left (BA.runS rows j).lds.length i))) := set_set_get (by simpa using hx)
    have q1 : ((S.set lx (.lst (dRs ((BA.runS rows j).left.set (BA.runS rows j).lds.length (BA.row (BA.runS rows j).left i))))).set lx (.lst (dRs (BA.swp [] (BA.runS rows j).left (BA.runS rows j).lds.length i))))[1]? = some (.lst (dI (BA.runS rows j).lds)) := by
      rw [List.getElem?_set_ne hne, List.getElem?_set_ne hne]; exact hS1
    have ql : ((S.set lx (.lst (dRs ((BA.runS rows j).left.set (BA.runS rows j).lds.length (BA.row (BA.runS rows j).left i))))).set lx (.lst (dRs (BA.swp [] (BA.runS rows j).left (BA.runS rows j).lds.length i)))).length = S.length := by simp
    generalize hS3 : ((S.set lx (.lst (dRs ((BA.runS rows j).left.set (BA.runS rows j).lds.length (BA.row (BA.runS rows j).left i))))).set lx (.lst (dRs (BA.swp [] (BA.runS rows j).left (BA.runS rows j).lds.length i)))) = S3 at q3 q1 ql
    have e3 := st_s3 (C := run tbl.T (n + 1)) (e0 := some (.d (.lst (dRs rows)))) (a1 := some (.d (.int j))) (a4 := some (.r 1)) (a5 := some (.d (.int (BA.runS rows j).d))) (a7 := a7) (a8 := a8) (a9 := a9) hS (r := r) hk hi
    rw [hS3] at e3
    have e4 := st_s4 (C := run tbl.T (n + 1)) (e0 := some (.d (.lst (dRs rows)))) (a1 := some (.d (.int j))) (a4 := some (.r 1)) (a5 := some (.d (.int (BA.runS rows j).d))) (a6 := some (.d (.lst (dI (i :: r))))) (a7 := a7) (a8 := a8) (a9 := a9) q3 (k := (BA.runS rows j).lds.length) (by rw [l1]; exact hk)
    have e5 := st_s5 (n := n) (e0 := some (.d (.lst (dRs rows)))) (a4 := some (.r 1)) (a6 := some (.d (.lst (dI (i :: r))))) (a8 := a8) (a9 := a9) (k := (BA.runS rows j).lds.length) (b := b) (m := m) (line := BA.row (BA.swp [] (BA.runS rows j).left (BA.runS rows j).lds.length i) (BA.runS rows j).lds.length) q3 (fun r hr => sh2 r (m1 r hr)) (sh2 _ t1) hj (by omega) (by rw [l1]; omega) (fun r hr => sm_of (f1 r (m1 r hr))) (sm_of (f1 _ t1)) f2 f3 g.b0 g.b9
    have q5 : (S3.set lx .dead ++ [Ob.lst (dRs (BA.clrs (BA.runS rows j).lds.length (BA.row (BA.swp [] (BA.runS rows j).left (BA.runS rows j).lds.length i) (BA.runS rows j).lds.length) j (BA.runS rows j).d 0 (BA.swp [] (BA.runS rows j).left (BA.runS rows j).lds.length i)))])[1]? = some (.lst (dI (BA.runS rows j).lds)) := by
      rw [List.getElem?_append_left (by simpa [ql] using h1), List.getElem?_set_ne hne]; exact q1
    have e6 := st_s6 (C := run tbl.T (n + 1)) (e0 := some (.d (.lst (dRs rows)))) (a1 := some (.r S3.length)) (a4 := some (.d (.int (BA.runS rows j).d))) (a5 := some (.d (.int ((BA.runS rows j).lds.length : Nat)))) (a6 := some (.d (.lst (dI (i :: r))))) (a7 := some (.d (dR (BA.row (BA.swp [] (BA.runS rows j).left (BA.runS rows j).lds.length i) (BA.runS rows j).lds.length)))) (a8 := a8) (a9 := a9) (j := j) q5 (by omega)
    have e7 := st_s7 (C := run tbl.T (n + 1)) (e0 := some (.d (.lst (dRs rows)))) (a1 := some (.r S3.length)) (a4 := some (.r 1)) (a9 := some (.d (.int (BA.runS rows j).d))) (a5 := some (.d (.int ((BA.runS rows j).lds.length : Nat)))) (a6 := some (.d (.lst (dI (i :: r))))) (a8 := a8) (a7 := a9) (j := j) (line := BA.row (BA.swp [] (BA.runS rows j).left (BA.runS rows j).lds.length i) (BA.runS rows j).lds.length)
      (S := (S3.set lx .dead ++ [Ob.lst (dRs (BA.clrs (BA.runS rows j).lds.length (BA.row (BA.swp [] (BA.runS rows j).left (BA.runS rows j).lds.length i) (BA.runS rows j).lds.length) j (BA.runS rows j).d 0 (BA.swp [] (BA.runS rows j).left (BA.runS rows j).lds.length i)))]).set 1 (.lst (dI ((BA.runS rows j).lds ++ [j])))) (by rw [sh2 _ t1]; exact hj)
    have e8 := (sq e3 (t := .cons s4_stepped (.cons s5_stepped (.cons s6_stepped (.cons s7_stepped .nil))))).trans ((sq e4).trans ((sq e5).trans ((sq e6).trans (sq1 e7))))
    have e9 : tstE (run tbl.T (n + 1)) (.cmp .ne (.var 6) (.lst false (.nil))) [some (.d (.lst (dRs rows))), some (.d (.int j)), some (.r lx), some (.r 1), some (.d (.int (BA.runS rows j).d)), some (.d (.int ((BA.runS rows j).lds.length : Nat))), some (.d (.lst (dI (i :: r)))), a7, a8, a9] S = .ret (true, S) := by
      simp only [exB, evE, evL, tstE, M.bnd, opt_some, bnd_ret, opt_bnd, mapO, List.length_cons, List.length_nil, List.map_cons, List.map_nil, List.replicate, List.getElem?_cons_zero, List.getElem?_cons_succ, List.cons_append, List.nil_append, if_true, if_false, Bool.false_eq_true, Nat.sub_self, Bool.true_and, Bool.and_true, Bool.false_and, Bool.and_false, Bool.not_true, Bool.not_false, Bool.or_false, Bool.false_or, Bool.true_or, Bool.or_true, decide_true, decide_false, Option.map_some, permD, setW, List.set_cons_zero, List.set_cons_succ, bindP, bindPs, v_rd, v_dat, v_non, v_bl, v_int, v_lst, v_tup, v_str, v_add, v_sub, v_mul, v_fdiv, v_mod, v_cat, v_app, v_neg, v_lt, v_le, v_gt, v_ge, v_eq, v_isN, v_notN, v_in, v_nin, v_inS, v_eqI, v_eqS, v_neI, v_neS, v_lenS, v_lenL, v_lenT, v_repr, v_intI, v_intB, v_abs, v_ty_int_non, v_ty_int_bl, v_ty_int_int, v_ty_int_str, v_ty_int_lst, v_ty_int_tup, v_ty_int_dct, v_ty_bool_non, v_ty_bool_bl, v_ty_bool_int, v_ty_bool_str, v_ty_bool_lst, v_ty_bool_tup, v_ty_bool_dct, v_ty_str_non, v_ty_str_bl, v_ty_str_int, v_ty_str_str, v_ty_str_lst, v_ty_str_tup, v_ty_str_dct, v_ty_list_non, v_ty_list_bl, v_ty_list_int, v_ty_list_str, v_ty_list_lst, v_ty_list_tup, v_ty_list_dct, v_ty_tuple_non, v_ty_tuple_bl, v_ty_tuple_int, v_ty_tuple_str, v_ty_tuple_lst, v_ty_tuple_tup, v_ty_tuple_dct, v_ty_dict_non, v_ty_dict_bl, v_ty_dict_int, v_ty_dict_str, v_ty_dict_lst, v_ty_dict_tup, v_ty_dict_dct, v_isN_non, v_isN_int, v_isN_bl, v_isN_str, v_sliS, v_sliL, v_sliT, v_optN, v_optI, v_meT, v_join, v_walL, v_walT, v_walS, v_rng1, v_rng2, v_enum, v_zip, v_fewF, v_any1, v_any2, Nat.zero_add, Nat.reduceAdd, Nat.reduceLT, Nat.reduceLeDiff, Nat.reduceSub, Nat.reduceEqDiff, le_lim, v_neL, eqI_nil]
      rfl
    have e10 : exB (run tbl.T (n + 1)) s8_stepped [some (.d (.lst (dRs rows))), some (.d (.int j)), some (.r lx), some (.r 1), some (.d (.int (BA.runS rows j).d)), some (.d (.int ((BA.runS rows j).lds.length : Nat))), some (.d (.lst (dI (i :: r)))), a7, a8, a9] S = _ := (ife_of (a := y0_stepped) (b := .nil) e9).trans ((if_pos rfl).trans e8)
    refine ⟨_, _, by simp only [exB, evE, evL, tstE, M.bnd, opt_some, bnd_ret, opt_bnd, mapO, List.length_cons, List.length_nil, List.map_cons, List.map_nil, List.replicate, List.getElem?_cons_zero, List.getElem?_cons_succ, List.cons_append, List.nil_append, if_true, if_false, Bool.false_eq_true, Nat.sub_self, Bool.true_and, Bool.and_true, Bool.false_and, Bool.and_false, Bool.not_true, Bool.not_false, Bool.or_false, Bool.false_or, Bool.true_or, Bool.or_true, decide_true, decide_false, Option.map_some, permD, setW, List.set_cons_zero, List.set_cons_succ, bindP, bindPs, v_rd, v_dat, v_non, v_bl, v_int, v_lst, v_tup, v_str, v_add, v_sub, v_mul, v_fdiv, v_mod, v_cat, v_app, v_neg, v_lt, v_le, v_gt, v_ge, v_eq, v_isN, v_notN, v_in, v_nin, v_inS, v_eqI, v_eqS, v_neI, v_neS, v_lenS, v_lenL, v_lenT, v_repr, v_intI, v_intB, v_abs, v_ty_int_non, v_ty_int_bl, v_ty_int_int, v_ty_int_str, v_ty_int_lst, v_ty_int_tup, v_ty_int_dct, v_ty_bool_non, v_ty_bool_bl, v_ty_bool_int, v_ty_bool_str, v_ty_bool_lst, v_ty_bool_tup, v_ty_bool_dct, v_ty_str_non, v_ty_str_bl, v_ty_str_int, v_ty_str_str, v_ty_str_lst, v_ty_str_tup, v_ty_str_dct, v_ty_list_non, v_ty_list_bl, v_ty_list_int, v_ty_list_str, v_ty_list_lst, v_ty_list_tup, v_ty_list_dct, v_ty_tuple_non, v_ty_tuple_bl, v_ty_tuple_int, v_ty_tuple_str, v_ty_tuple_lst, v_ty_tuple_tup, v_ty_tuple_dct, v_ty_dict_non, v_ty_dict_bl, v_ty_dict_int, v_ty_dict_str, v_ty_dict_lst, v_ty_dict_tup, v_ty_dict_dct, v_isN_non, v_isN_int, v_isN_bl, v_isN_str, v_sliS, v_sliL, v_sliT, v_optN, v_optI, v_meT, v_join, v_walL, v_walT, v_walS, v_rng1, v_rng2, v_enum, v_zip, v_fewF, v_any1, v_any2, Nat.zero_add, Nat.reduceAdd, Nat.reduceLT, Nat.reduceLeDiff, Nat.reduceSub, Nat.reduceEqDiff, le_lim], sq1 e10, ⟨S3.length, some (.d (.int j)), some (.d (.int ((BA.runS rows j).lds.length : Nat))), some (.d (.lst (dI (i :: r)))), some (.d (dR (BA.row (BA.swp [] (BA.runS rows j).left (BA.runS rows j).lds.length i) (BA.runS rows j).lds.length))), a8, a9, ?_, ?_, ?_⟩, ?_⟩
    · rw [stp]
      rfl
    · rw [stp, List.getElem?_set_ne (by omega)]
      rw [List.getElem?_append_right (by simp)]
      simp
    · simp only [List.length_nil]
      omega
    · rw [stp]
      exact set_set_get (by simp; omega)
theorem st_s0 {C : Calls} (hl : rows.length ≤ 1000) : exB C s0_stepped [some (.d (.lst (dRs rows))), none, none, none, none, none, none, none, none, none] [] = .ret (.nx, [some (.d (.lst (dRs rows))), none, some (.r 0), some (.r 1), some (.d (.int 1)), none, none, none, none, none], [.lst (dRs rows), .lst []]) := by
  have q := ev_of (C := C) (m := true) (chk := false) (pt := .name 8) (k := .val) (src := .cons (.var 0) .nil) (cond := .dat (.bl true)) (elt := .bi .list (.cons (.var 8) (.nil))) (env := [some (.d (.lst (dRs rows))), none, none, none, none, none, none, none, none, none]) (S := []) (S1 := []) (ws := [.d (.lst (dRs rows))]) (ds := [.lst (dRs rows)]) rows dR (fun r => some (dR r)) (by simp only [exB, evE, evL, tstE, M.bnd, opt_some, bnd_ret, opt_bnd, mapO, List.length_cons, List.length_nil, List.map_cons, List.map_nil, List.replicate, List.getElem?_cons_zero, List.getElem?_cons_succ, List.cons_append, List.nil_append, if_true, if_false, Bool.false_eq_true, Nat.sub_self, Bool.true_and, Bool.and_true, Bool.false_and, Bool.and_false, Bool.not_true, Bool.not_false, Bool.or_false, Bool.false_or, Bool.true_or, Bool.or_true, decide_true, decide_false, Option.map_some, permD, setW, List.set_cons_zero, List.set_cons_succ, bindP, bindPs, v_rd, v_dat, v_non, v_bl, v_int, v_lst, v_tup, v_str, v_add, v_sub, v_mul, v_fdiv, v_mod, v_cat, v_app, v_neg, v_lt, v_le, v_gt, v_ge, v_eq, v_isN, v_notN, v_in, v_nin, v_inS, v_eqI, v_eqS, v_neI, v_neS, v_lenS, v_lenL, v_lenT, v_repr, v_intI, v_intB, v_abs, v_ty_int_non, v_ty_int_bl, v_ty_int_int, v_ty_int_str, v_ty_int_lst, v_ty_int_tup, v_ty_int_dct, v_ty_bool_non, v_ty_bool_bl, v_ty_bool_int, v_ty_bool_str, v_ty_bool_lst, v_ty_bool_tup, v_ty_bool_dct, v_ty_str_non, v_ty_str_bl, v_ty_str_int, v_ty_str_str, v_ty_str_lst, v_ty_str_tup, v_ty_str_dct, v_ty_list_non, v_ty_list_bl, v_ty_list_int, v_ty_list_str, v_ty_list_lst, v_ty_list_tup, v_ty_list_dct, v_ty_tuple_non, v_ty_tuple_bl, v_ty_tuple_int, v_ty_tuple_str, v_ty_tuple_lst, v_ty_tuple_tup, v_ty_tuple_dct, v_ty_dict_non, v_ty_dict_bl, v_ty_dict_int, v_ty_dict_str, v_ty_dict_lst, v_ty_dict_tup, v_ty_dict_dct, v_isN_non, v_isN_int, v_isN_bl, v_isN_str, v_sliS, v_sliL, v_sliT, v_optN, v_optI, v_meT, v_join, v_walL, v_walT, v_walS, v_rng1, v_rng2, v_enum, v_zip, v_fewF, v_any1, v_any2, Nat.zero_add, Nat.reduceAdd, Nat.reduceLT, Nat.reduceLeDiff, Nat.reduceSub, Nat.reduceEqDiff, le_lim]) rfl rfl rfl (by unfold lim; omega) fun p hp => by
        refine ⟨_, by simp only [exB, evE, evL, tstE, M.bnd, opt_some, bnd_ret, opt_bnd, mapO, List.length_cons, List.length_nil, List.map_cons, List.map_nil, List.replicate, List.getElem?_cons_zero, List.getElem?_cons_succ, List.cons_append, List.nil_append, if_true, if_false, Bool.false_eq_true, Nat.sub_self, Bool.true_and, Bool.and_true, Bool.false_and, Bool.and_false, Bool.not_true, Bool.not_false, Bool.or_false, Bool.false_or, Bool.true_or, Bool.or_true, decide_true, decide_false, Option.map_some, permD, setW, List.set_cons_zero, List.set_cons_succ, bindP, bindPs, v_rd, v_dat, v_non, v_bl, v_int, v_lst, v_tup, v_str, v_add, v_sub, v_mul, v_fdiv, v_mod, v_cat, v_app, v_neg, v_lt, v_le, v_gt, v_ge, v_eq, v_isN, v_notN, v_in, v_nin, v_inS, v_eqI, v_eqS, v_neI, v_neS, v_lenS, v_lenL, v_lenT, v_repr, v_intI, v_intB, v_abs, v_ty_int_non, v_ty_int_bl, v_ty_int_int, v_ty_int_str, v_ty_int_lst, v_ty_int_tup, v_ty_int_dct, v_ty_bool_non, v_ty_bool_bl, v_ty_bool_int, v_ty_bool_str, v_ty_bool_lst, v_ty_bool_tup, v_ty_bool_dct, v_ty_str_non, v_ty_str_bl, v_ty_str_int, v_ty_str_str, v_ty_str_lst, v_ty_str_tup, v_ty_str_dct, v_ty_list_non, v_ty_list_bl, v_ty_list_int, v_ty_list_str, v_ty_list_lst, v_ty_list_tup, v_ty_list_dct, v_ty_tuple_non, v_ty_tuple_bl, v_ty_tuple_int, v_ty_tuple_str, v_ty_tuple_lst, v_ty_tuple_tup, v_ty_tuple_dct, v_ty_dict_non, v_ty_dict_bl, v_ty_dict_int, v_ty_dict_str, v_ty_dict_lst, v_ty_dict_tup, v_ty_dict_dct, v_isN_non, v_isN_int, v_isN_bl, v_isN_str, v_sliS, v_sliL, v_sliT, v_optN, v_optI, v_meT, v_join, v_walL, v_walT, v_walS, v_rng1, v_rng2, v_enum, v_zip, v_fewF, v_any1, v_any2, Nat.zero_add, Nat.reduceAdd, Nat.reduceLT, Nat.reduceLeDiff, Nat.reduceSub, Nat.reduceEqDiff, le_lim]; rfl, el_yes ?_⟩
        have e : biD .list [dR p] = some (dR p) := rfl
        simp only [exB, evE, evL, tstE, M.bnd, opt_some, bnd_ret, opt_bnd, mapO, List.length_cons, List.length_nil, List.map_cons, List.map_nil, List.replicate, List.getElem?_cons_zero, List.getElem?_cons_succ, List.cons_append, List.nil_append, if_true, if_false, Bool.false_eq_true, Nat.sub_self, Bool.true_and, Bool.and_true, Bool.false_and, Bool.and_false, Bool.not_true, Bool.not_false, Bool.or_false, Bool.false_or, Bool.true_or, Bool.or_true, decide_true, decide_false, Option.map_some, permD, setW, List.set_cons_zero, List.set_cons_succ, bindP, bindPs, v_rd, v_dat, v_non, v_bl, v_int, v_lst, v_tup, v_str, v_add, v_sub, v_mul, v_fdiv, v_mod, v_cat, v_app, v_neg, v_lt, v_le, v_gt, v_ge, v_eq, v_isN, v_notN, v_in, v_nin, v_inS, v_eqI, v_eqS, v_neI, v_neS, v_lenS, v_lenL, v_lenT, v_repr, v_intI, v_intB, v_abs, v_ty_int_non, v_ty_int_bl, v_ty_int_int, v_ty_int_str, v_ty_int_lst, v_ty_int_tup, v_ty_int_dct, v_ty_bool_non, v_ty_bool_bl, v_ty_bool_int, v_ty_bool_str, v_ty_bool_lst, v_ty_bool_tup, v_ty_bool_dct, v_ty_str_non, v_ty_str_bl, v_ty_str_int, v_ty_str_str, v_ty_str_lst, v_ty_str_tup, v_ty_str_dct, v_ty_list_non, v_ty_list_bl, v_ty_list_int, v_ty_list_str, v_ty_list_lst, v_ty_list_tup, v_ty_list_dct, v_ty_tuple_non, v_ty_tuple_bl, v_ty_tuple_int, v_ty_tuple_str, v_ty_tuple_lst, v_ty_tuple_tup, v_ty_tuple_dct, v_ty_dict_non, v_ty_dict_bl, v_ty_dict_int, v_ty_dict_str, v_ty_dict_lst, v_ty_dict_tup, v_ty_dict_dct, v_isN_non, v_isN_int, v_isN_bl, v_isN_str, v_sliS, v_sliL, v_sliT, v_optN, v_optI, v_meT, v_join, v_walL, v_walT, v_walS, v_rng1, v_rng2, v_enum, v_zip, v_fewF, v_any1, v_any2, Nat.zero_add, Nat.reduceAdd, Nat.reduceLT, Nat.reduceLeDiff, Nat.reduceSub, Nat.reduceEqDiff, le_lim, e]
  simp only [s0_stepped, exB, evL, k0_stepped]
  rw [q, fm_some]
  simp only [exB, evE, evL, tstE, M.bnd, opt_some, bnd_ret, opt_bnd, mapO, List.length_cons, List.length_nil, List.map_cons, List.map_nil, List.replicate, List.getElem?_cons_zero, List.getElem?_cons_succ, List.cons_append, List.nil_append, if_true, if_false, Bool.false_eq_true, Nat.sub_self, Bool.true_and, Bool.and_true, Bool.false_and, Bool.and_false, Bool.not_true, Bool.not_false, Bool.or_false, Bool.false_or, Bool.true_or, Bool.or_true, decide_true, decide_false, Option.map_some, permD, setW, List.set_cons_zero, List.set_cons_succ, bindP, bindPs, v_rd, v_dat, v_non, v_bl, v_int, v_lst, v_tup, v_str, v_add, v_sub, v_mul, v_fdiv, v_mod, v_cat, v_app, v_neg, v_lt, v_le, v_gt, v_ge, v_eq, v_isN, v_notN, v_in, v_nin, v_inS, v_eqI, v_eqS, v_neI, v_neS, v_lenS, v_lenL, v_lenT, v_repr, v_intI, v_intB, v_abs, v_ty_int_non, v_ty_int_bl, v_ty_int_int, v_ty_int_str, v_ty_int_lst, v_ty_int_tup, v_ty_int_dct, v_ty_bool_non, v_ty_bool_bl, v_ty_bool_int, v_ty_bool_str, v_ty_bool_lst, v_ty_bool_tup, v_ty_bool_dct, v_ty_str_non, v_ty_str_bl, v_ty_str_int, v_ty_str_str, v_ty_str_lst, v_ty_str_tup, v_ty_str_dct, v_ty_list_non, v_ty_list_bl, v_ty_list_int, v_ty_list_str, v_ty_list_lst, v_ty_list_tup, v_ty_list_dct, v_ty_tuple_non, v_ty_tuple_bl, v_ty_tuple_int, v_ty_tuple_str, v_ty_tuple_lst, v_ty_tuple_tup, v_ty_tuple_dct, v_ty_dict_non, v_ty_dict_bl, v_ty_dict_int, v_ty_dict_str, v_ty_dict_lst, v_ty_dict_tup, v_ty_dict_dct, v_isN_non, v_isN_int, v_isN_bl, v_isN_str, v_sliS, v_sliL, v_sliT, v_optN, v_optI, v_meT, v_join, v_walL, v_walT, v_walS, v_rng1, v_rng2, v_enum, v_zip, v_fewF, v_any1, v_any2, Nat.zero_add, Nat.reduceAdd, Nat.reduceLT, Nat.reduceLeDiff, Nat.reduceSub, Nat.reduceEqDiff, le_lim, stoXs, stoX]
  rfl
/-- how many columns there are, as the program reckons it -/
theorem cols_of {C : Calls} {l : BA.Rows} {hlen : ∀ r ∈ l, r.length = m} {tl : EnvD} {S : Sto} : evL C (.cons (.ite (.cmp .ne (.var 0) (.lst false (.nil))) (.bi .len (.cons (.sub (.var 0) (.dat (.int 0))) (.nil))) (.dat (.int 0))) (.nil)) (some (.d (.lst (dRs l))) :: tl) S = .ret ([.d (.int (if l = [] then 0 else m : Nat))], S) := by
  cases l with
  | nil =>
    have e : eqD (.lst (dRs [])) (.lst []) = some true := eqM_nil []
    simp only [exB, evE, evL, tstE, M.bnd, opt_some, bnd_ret, opt_bnd, mapO, List.length_cons, List.length_nil, List.map_cons, List.map_nil, List.replicate, List.getElem?_cons_zero, List.getElem?_cons_succ, List.cons_append, List.nil_append, if_true, if_false, Bool.false_eq_true, Nat.sub_self, Bool.true_and, Bool.and_true, Bool.false_and, Bool.and_false, Bool.not_true, Bool.not_false, Bool.or_false, Bool.false_or, Bool.true_or, Bool.or_true, decide_true, decide_false, Option.map_some, permD, setW, List.set_cons_zero, List.set_cons_succ, bindP, bindPs, v_rd, v_dat, v_non, v_bl, v_int, v_lst, v_tup, v_str, v_add, v_sub, v_mul, v_fdiv, v_mod, v_cat, v_app, v_neg, v_lt, v_le, v_gt, v_ge, v_eq, v_isN, v_notN, v_in, v_nin, v_inS, v_eqI, v_eqS, v_neI, v_neS, v_lenS, v_lenL, v_lenT, v_repr, v_intI, v_intB, v_abs, v_ty_int_non, v_ty_int_bl, v_ty_int_int, v_ty_int_str, v_ty_int_lst, v_ty_int_tup, v_ty_int_dct, v_ty_bool_non, v_ty_bool_bl, v_ty_bool_int, v_ty_bool_str, v_ty_bool_lst, v_ty_bool_tup, v_ty_bool_dct, v_ty_str_non, v_ty_str_bl, v_ty_str_int, v_ty_str_str, v_ty_str_lst, v_ty_str_tup, v_ty_str_dct, v_ty_list_non, v_ty_list_bl, v_ty_list_int, v_ty_list_str, v_ty_list_lst, v_ty_list_tup, v_ty_list_dct, v_ty_tuple_non, v_ty_tuple_bl, v_ty_tuple_int, v_ty_tuple_str, v_ty_tuple_lst, v_ty_tuple_tup, v_ty_tuple_dct, v_ty_dict_non, v_ty_dict_bl, v_ty_dict_int, v_ty_dict_str, v_ty_dict_lst, v_ty_dict_tup, v_ty_dict_dct, v_isN_non, v_isN_int, v_isN_bl, v_isN_str, v_sliS, v_sliL, v_sliT, v_optN, v_optI, v_meT, v_join, v_walL, v_walT, v_walS, v_rng1, v_rng2, v_enum, v_zip, v_fewF, v_any1, v_any2, Nat.zero_add, Nat.reduceAdd, Nat.reduceLT, Nat.reduceLeDiff, Nat.reduceSub, Nat.reduceEqDiff, le_lim, v_neL, e]
    rfl
  | cons r l =>
    have e : eqD (.lst (dRs (r :: l))) (.lst []) = some false := eqM_nil (r :: l)
    have e2 : subD (.lst (dRs (r :: l))) (.int (0 : Int)) = some (dR r) := atI_row (l := r :: l) (i := 0) (by simp)
    have e3 : biD .len [dR r] = some (.int (r.length : Nat)) := by
      show some (D.int ((r.map D.int).length : Nat)) = _
      rw [List.length_map]
    have e4 : r.length = m := hlen r (List.mem_cons_self ..)
    simp only [exB, evE, evL, tstE, M.bnd, opt_some, bnd_ret, opt_bnd, mapO, List.length_cons, List.length_nil, List.map_cons, List.map_nil, List.replicate, List.getElem?_cons_zero, List.getElem?_cons_succ, List.cons_append, List.nil_append, if_true, if_false, Bool.false_eq_true, Nat.sub_self, Bool.true_and, Bool.and_true, Bool.false_and, Bool.and_false, Bool.not_true, Bool.not_false, Bool.or_false, Bool.false_or, Bool.true_or, Bool.or_true, decide_true, decide_false, Option.map_some, permD, setW, List.set_cons_zero, List.set_cons_succ, bindP, bindPs, v_rd, v_dat, v_non, v_bl, v_int, v_lst, v_tup, v_str, v_add, v_sub, v_mul, v_fdiv, v_mod, v_cat, v_app, v_neg, v_lt, v_le, v_gt, v_ge, v_eq, v_isN, v_notN, v_in, v_nin, v_inS, v_eqI, v_eqS, v_neI, v_neS, v_lenS, v_lenL, v_lenT, v_repr, v_intI, v_intB, v_abs, v_ty_int_non, v_ty_int_bl, v_ty_int_int, v_ty_int_str, v_ty_int_lst, v_ty_int_tup, v_ty_int_dct, v_ty_bool_non, v_ty_bool_bl, v_ty_bool_int, v_ty_bool_str, v_ty_bool_lst, v_ty_bool_tup, v_ty_bool_dct, v_ty_str_non, v_ty_str_bl, v_ty_str_int, v_ty_str_str, v_ty_str_lst, v_ty_str_tup, v_ty_str_dct, v_ty_list_non, v_ty_list_bl, v_ty_list_int, v_ty_list_str, v_ty_list_lst, v_ty_list_tup, v_ty_list_dct, v_ty_tuple_non, v_ty_tuple_bl, v_ty_tuple_int, v_ty_tuple_str, v_ty_tuple_lst, v_ty_tuple_tup, v_ty_tuple_dct, v_ty_dict_non, v_ty_dict_bl, v_ty_dict_int, v_ty_dict_str, v_ty_dict_lst, v_ty_dict_tup, v_ty_dict_dct, v_isN_non, v_isN_int, v_isN_bl, v_isN_str, v_sliS, v_sliL, v_sliT, v_optN, v_optI, v_meT, v_join, v_walL, v_walT, v_walS, v_rng1, v_rng2, v_enum, v_zip, v_fewF, v_any1, v_any2, Nat.zero_add, Nat.reduceAdd, Nat.reduceLT, Nat.reduceLeDiff, Nat.reduceSub, Nat.reduceEqDiff, le_lim, v_neL, e, e2, e3, e4]
    rfl
theorem st_s9 (g : Good b m rows) : ∃ env2 S2, exB (run tbl.T (n + 1)) s9_stepped [some (.d (.lst (dRs rows))), none, some (.r 0), some (.r 1), some (.d (.int 1)), none, none, none, none, none] [.lst (dRs rows), .lst []] = .ret (.nx, env2, S2) ∧ IS rows [] m env2 S2 := by
  have wide := g.wide
  by_cases h0 : rows = []
  · subst h0
    refine ⟨[some (.d (.lst (dRs []))), none, some (.r 0), some (.r 1), some (.d (.int 1)), none, none, none, none, none], [.lst (dRs []), .lst []], ?_, ⟨0, none, none, none, none, none, none, ?_, ?_, by decide⟩, ?_⟩
    · simp only [s9_stepped, exB, cols_of (C := run tbl.T (n + 1)) (hlen := g.len)]
      simp only [exB, evE, evL, tstE, M.bnd, opt_some, bnd_ret, opt_bnd, mapO, List.length_cons, List.length_nil, List.map_cons, List.map_nil, List.replicate, List.getElem?_cons_zero, List.getElem?_cons_succ, List.cons_append, List.nil_append, if_true, if_false, Bool.false_eq_true, Nat.sub_self, Bool.true_and, Bool.and_true, Bool.false_and, Bool.and_false, Bool.not_true, Bool.not_false, Bool.or_false, Bool.false_or, Bool.true_or, Bool.or_true, decide_true, decide_false, Option.map_some, permD, setW, List.set_cons_zero, List.set_cons_succ, bindP, bindPs, v_rd, v_dat, v_non, v_bl, v_int, v_lst, v_tup, v_str, v_add, v_sub, v_mul, v_fdiv, v_mod, v_cat, v_app, v_neg, v_lt, v_le, v_gt, v_ge, v_eq, v_isN, v_notN, v_in, v_nin, v_inS, v_eqI, v_eqS, v_neI, v_neS, v_lenS, v_lenL, v_lenT, v_repr, v_intI, v_intB, v_abs, v_ty_int_non, v_ty_int_bl, v_ty_int_int, v_ty_int_str, v_ty_int_lst, v_ty_int_tup, v_ty_int_dct, v_ty_bool_non, v_ty_bool_bl, v_ty_bool_int, v_ty_bool_str, v_ty_bool_lst, v_ty_bool_tup, v_ty_bool_dct, v_ty_str_non, v_ty_str_bl, v_ty_str_int, v_ty_str_str, v_ty_str_lst, v_ty_str_tup, v_ty_str_dct, v_ty_list_non, v_ty_list_bl, v_ty_list_int, v_ty_list_str, v_ty_list_lst, v_ty_list_tup, v_ty_list_dct, v_ty_tuple_non, v_ty_tuple_bl, v_ty_tuple_int, v_ty_tuple_str, v_ty_tuple_lst, v_ty_tuple_tup, v_ty_tuple_dct, v_ty_dict_non, v_ty_dict_bl, v_ty_dict_int, v_ty_dict_str, v_ty_dict_lst, v_ty_dict_tup, v_ty_dict_dct, v_isN_non, v_isN_int, v_isN_bl, v_isN_str, v_sliS, v_sliL, v_sliT, v_optN, v_optI, v_meT, v_join, v_walL, v_walT, v_walS, v_rng1, v_rng2, v_enum, v_zip, v_fewF, v_any1, v_any2, Nat.zero_add, Nat.reduceAdd, Nat.reduceLT, Nat.reduceLeDiff, Nat.reduceSub, Nat.reduceEqDiff, le_lim]
      rfl
    · rw [BA.runS_empty]; rfl
    · rw [BA.runS_empty]; rfl
    · rw [BA.runS_empty]; rfl
  · have := ex_for (C := run tbl.T (n + 1)) (chk := false) (pt := .name 1) (k := .range) (body := y1_stepped) (env := [some (.d (.lst (dRs rows))), none, some (.r 0), some (.r 1), some (.d (.int 1)), none, none, none, none, none]) (S := [.lst (dRs rows), .lst []]) (I := fun j env S => IS rows [] j env S) (cols_of (hlen := g.len)) rfl (its := upD 0 m) (by
        rw [if_neg h0]
        show (if small (m : Int) then some (upD 0 (m : Int).toNat) else none) = _
        rw [if_pos (by unfold small; rw [Bool.and_eq_true, decide_eq_true_eq, decide_eq_true_eq]; omega)]
        rfl) rfl ⟨⟨0, none, none, none, none, none, none, rfl, rfl, by decide⟩, rfl⟩ fun i d hd env S hI => by
          have e : upD 0 m = (List.range' 0 m).map fun (i : Nat) => D.int (i : Int) := upD_map m 0
          rw [e] at hd
          obtain ⟨a, ha, rfl⟩ := getElem?_map_some hd
          have hi := (List.getElem?_eq_some_iff.mp ha).1
          have e2 : a = i := by
            have := (List.getElem?_eq_some_iff.mp ha).2
            rw [List.getElem_range'] at this
            omega
          subst e2
          exact st_turn g (by simpa using hi) (a1 := none) hI
    have e : (upD 0 m).length = m := by rw [show upD 0 m = (List.range' 0 m).map fun (i : Nat) => D.int (i : Int) from upD_map m 0]; simp
    rw [e] at this
    exact this
theorem cutL_take (l : BA.Rows) {k : Nat} (h : k ≤ l.length) : cutL (dRs l) none (some (k : Int)) = dRs (l.take k) := by
  unfold cutL
  have e1 : HT.sIx (dRs l).length 0 none = 0 := rfl
  have e2 : HT.sIx (dRs l).length (dRs l).length (some (k : Int)) = k := by
    rw [HT.sIx_nat, dRs_len]
    omega
  rw [e1, e2, List.drop_zero, Nat.sub_zero]
  unfold dRs
  rw [List.map_take]
theorem r_stepped (g : Good b m rows) : dcall (run tbl.T (n + 2)) 2 [.lst (dRs rows)] = .ret (.tup [.lst (dRs ((BA.runS rows m).left.take (BA.runS rows m).lds.length)), .lst (dI (BA.runS rows m).lds), .int (BA.runS rows m).d]) := by
  have few := g.few
  obtain ⟨env2, S2, e9, ⟨lx, a1, a5, a6, a7, a8, a9, rfl, hS, hne⟩, hld⟩ := st_s9 (n := n) g
  have hS1 : S2[1]? = some (.lst (dI (BA.runS rows m).lds)) := hld
  obtain ⟨sh1, sh2, sh3⟩ := BA.runS_shape g.len m
  refine fn_ret T2 rfl (env := [some (.d (.lst (dRs rows))), a1, some (.r lx), some (.r 1), some (.d (.int (BA.runS rows m).d)), a5, a6, a7, a8, a9]) (S := S2.set 1 .dead) ?_
  show exB _ b_stepped [some (.d (.lst (dRs rows))), none, none, none, none, none, none, none, none, none] [] = _
  unfold b_stepped
  rw [sq (st_s0 (by omega)), sq e9]
  refine sqR ?_
  have e1 : (3 : Nat) ≤ lim := by decide
  simp only [s10_stepped, x0_stepped, exB, evE, evL, tstE, M.bnd, opt_some, bnd_ret, opt_bnd, mapO, List.length_cons, List.length_nil, List.map_cons, List.map_nil, List.replicate, List.getElem?_cons_zero, List.getElem?_cons_succ, List.cons_append, List.nil_append, if_true, if_false, Bool.false_eq_true, Nat.sub_self, Bool.true_and, Bool.and_true, Bool.false_and, Bool.and_false, Bool.not_true, Bool.not_false, Bool.or_false, Bool.false_or, Bool.true_or, Bool.or_true, decide_true, decide_false, Option.map_some, permD, setW, List.set_cons_zero, List.set_cons_succ, bindP, bindPs, v_rd, v_dat, v_non, v_bl, v_int, v_lst, v_tup, v_str, v_add, v_sub, v_mul, v_fdiv, v_mod, v_cat, v_app, v_neg, v_lt, v_le, v_gt, v_ge, v_eq, v_isN, v_notN, v_in, v_nin, v_inS, v_eqI, v_eqS, v_neI, v_neS, v_lenS, v_lenL, v_lenT, v_repr, v_intI, v_intB, v_abs, v_ty_int_non, v_ty_int_bl, v_ty_int_int, v_ty_int_str, v_ty_int_lst, v_ty_int_tup, v_ty_int_dct, v_ty_bool_non, v_ty_bool_bl, v_ty_bool_int, v_ty_bool_str, v_ty_bool_lst, v_ty_bool_tup, v_ty_bool_dct, v_ty_str_non, v_ty_str_bl, v_ty_str_int, v_ty_str_str, v_ty_str_lst, v_ty_str_tup, v_ty_str_dct, v_ty_list_non, v_ty_list_bl, v_ty_list_int, v_ty_list_str, v_ty_list_lst, v_ty_list_tup, v_ty_list_dct, v_ty_tuple_non, v_ty_tuple_bl, v_ty_tuple_int, v_ty_tuple_str, v_ty_tuple_lst, v_ty_tuple_tup, v_ty_tuple_dct, v_ty_dict_non, v_ty_dict_bl, v_ty_dict_int, v_ty_dict_str, v_ty_dict_lst, v_ty_dict_tup, v_ty_dict_dct, v_isN_non, v_isN_int, v_isN_bl, v_isN_str, v_sliS, v_sliL, v_sliT, v_optN, v_optI, v_meT, v_join, v_walL, v_walT, v_walS, v_rng1, v_rng2, v_enum, v_zip, v_fewF, v_any1, v_any2, Nat.zero_add, Nat.reduceAdd, Nat.reduceLT, Nat.reduceLeDiff, Nat.reduceSub, Nat.reduceEqDiff, le_lim, rd_r hS, rd_r hS1, hS1, dI_len, cutL_take _ (show (BA.runS rows m).lds.length ≤ (BA.runS rows m).left.length by omega), e1, List.length_nil, Nat.zero_add]
theorem r_rank (g : Good b m rows) : dcall (run tbl.T (n + 3)) 4 [.lst (dRs rows)] = .ret (.int ((BA.runS rows m).lds.length : Nat)) := by
  have h := r_stepped (n := n) g
  refine fn_ret T4 rfl (env := [some (.d (.lst (dRs rows)))]) (S := []) ?_
  show exB _ b_rank_of [some (.d (.lst (dRs rows)))] [] = _
  unfold b_rank_of
  refine sqR ?_
  have e : biD .list [.lst (dRs rows)] = some (.lst (dRs rows)) := rfl
  have e2 : ∀ x y z : D, subD (.tup [x, y, z]) (.int 1) = some y := fun _ _ _ => rfl
  simp only [s0_rank_of, x0_rank_of, exB, evE, evL, tstE, M.bnd, opt_some, bnd_ret, opt_bnd, mapO, List.length_cons, List.length_nil, List.map_cons, List.map_nil, List.replicate, List.getElem?_cons_zero, List.getElem?_cons_succ, List.cons_append, List.nil_append, if_true, if_false, Bool.false_eq_true, Nat.sub_self, Bool.true_and, Bool.and_true, Bool.false_and, Bool.and_false, Bool.not_true, Bool.not_false, Bool.or_false, Bool.false_or, Bool.true_or, Bool.or_true, decide_true, decide_false, Option.map_some, permD, setW, List.set_cons_zero, List.set_cons_succ, bindP, bindPs, v_rd, v_dat, v_non, v_bl, v_int, v_lst, v_tup, v_str, v_add, v_sub, v_mul, v_fdiv, v_mod, v_cat, v_app, v_neg, v_lt, v_le, v_gt, v_ge, v_eq, v_isN, v_notN, v_in, v_nin, v_inS, v_eqI, v_eqS, v_neI, v_neS, v_lenS, v_lenL, v_lenT, v_repr, v_intI, v_intB, v_abs, v_ty_int_non, v_ty_int_bl, v_ty_int_int, v_ty_int_str, v_ty_int_lst, v_ty_int_tup, v_ty_int_dct, v_ty_bool_non, v_ty_bool_bl, v_ty_bool_int, v_ty_bool_str, v_ty_bool_lst, v_ty_bool_tup, v_ty_bool_dct, v_ty_str_non, v_ty_str_bl, v_ty_str_int, v_ty_str_str, v_ty_str_lst, v_ty_str_tup, v_ty_str_dct, v_ty_list_non, v_ty_list_bl, v_ty_list_int, v_ty_list_str, v_ty_list_lst, v_ty_list_tup, v_ty_list_dct, v_ty_tuple_non, v_ty_tuple_bl, v_ty_tuple_int, v_ty_tuple_str, v_ty_tuple_lst, v_ty_tuple_tup, v_ty_tuple_dct, v_ty_dict_non, v_ty_dict_bl, v_ty_dict_int, v_ty_dict_str, v_ty_dict_lst, v_ty_dict_tup, v_ty_dict_dct, v_isN_non, v_isN_int, v_isN_bl, v_isN_str, v_sliS, v_sliL, v_sliT, v_optN, v_optI, v_meT, v_join, v_walL, v_walT, v_walS, v_rng1, v_rng2, v_enum, v_zip, v_fewF, v_any1, v_any2, Nat.zero_add, Nat.reduceAdd, Nat.reduceLT, Nat.reduceLeDiff, Nat.reduceSub, Nat.reduceEqDiff, le_lim, e, h, e2, dI_len]
end
end RL.T
end

section
set_option Elab.async false
set_option linter.all false
set_option maxRecDepth 100000
set_option maxHeartbeats 400000
namespace RL.T
open PySem L2
/-! the law's own rank -/
theorem v_new {ds : List D} {S : Sto} : newW (.lst ds) S = .ret (.r S.length, S ++ [.lst ds]) := rfl
theorem cutL_drop (l : BA.Rows) {k : Nat} (h : k ≤ l.length) : cutL (dRs l) (some (k : Int)) none = dRs (l.drop k) := by
  unfold cutL
  have e1 : HT.sIx (dRs l).length (dRs l).length none = (dRs l).length := rfl
  rw [e1, HT.sIx_nat, dRs_len, Nat.min_eq_left h, List.take_of_length_le (by rw [List.length_drop, dRs_len]; exact Nat.le_refl _)]
  unfold dRs
  rw [List.map_drop]
structure IR (rows : BA.Rows) (j : Nat) (env : EnvD) (S : Sto) : Prop where
  ex : ∃ lx a1 a5 a6 a7 a8 a9 a10, env = [some (.d (.lst (dRs rows))), a1, some (.r lx), some (.d (.int ((BA.runR rows j).k : Nat))), some (.d (.int (BA.runR rows j).d)), a5, a6, a7, a8, a9, a10] ∧
    S[lx]? = some (.lst (dRs (BA.runR rows j).left))
section
variable {C : Calls} {rows l : BA.Rows} {S : Sto} {lx ix j k d m b : Nat} {e0 a1 a4 a5 a6 a7 a8 a9 a10 : Option W} {dv : Int} {lds : List Nat} {line : List Int}
theorem lr_s1 (hl : S[lx]? = some (.lst (dRs l))) (hk : k ≤ l.length) (hlen : l.length ≤ 1000) (hc : ∀ r ∈ l, j < r.length) : exB C s1__law_rank [e0, some (.d (.int j)), some (.r lx), some (.d (.int k)), a1, a4, a6, a7, a8, a9, a10] S = .ret (.nx, [e0, some (.d (.int j)), some (.r lx), some (.d (.int k)), a1, some (.d (.lst (dI (BA.spots l j k (l.length - k))))), a6, a7, a8, a9, a10], S) := by
  have q := ev_of (C := C) (m := false) (chk := false) (pt := .name 8) (k := .range) (src := .cons (.var 3) (.cons (.bi .len (.cons (.var 2) .nil)) .nil)) (cond := .cmp .ne (.sub (.sub (.var 2) (.var 8)) (.var 1)) (.dat (.int 0))) (elt := .var 8) (env := [e0, some (.d (.int j)), some (.r lx), some (.d (.int k)), a1, a4, a6, a7, a8, a9, a10]) (S := S) (S1 := S) (ws := [.d (.int k), .d (.int l.length)]) (ds := [.int k, .int l.length])
    (List.range' k (l.length - k)) (fun (i : Nat) => D.int (i : Int)) (fun (i : Nat) => if (!(BA.cell (BA.row l i) j == 0)) then some (D.int (i : Int)) else none) (by simp only [exB, evE, evL, tstE, M.bnd, opt_some, bnd_ret, opt_bnd, mapO, List.length_cons, List.length_nil, List.map_cons, List.map_nil, List.replicate, List.getElem?_cons_zero, List.getElem?_cons_succ, List.cons_append, List.nil_append, if_true, if_false, Bool.false_eq_true, Nat.sub_self, Bool.true_and, Bool.and_true, Bool.false_and, Bool.and_false, Bool.not_true, Bool.not_false, Bool.or_false, Bool.false_or, Bool.true_or, Bool.or_true, decide_true, decide_false, Option.map_some, permD, setW, List.set_cons_zero, List.set_cons_succ, bindP, bindPs, v_rd, v_dat, v_non, v_bl, v_int, v_lst, v_tup, v_str, v_add, v_sub, v_mul, v_fdiv, v_mod, v_cat, v_app, v_neg, v_lt, v_le, v_gt, v_ge, v_eq, v_isN, v_notN, v_in, v_nin, v_inS, v_eqI, v_eqS, v_neI, v_neS, v_lenS, v_lenL, v_lenT, v_repr, v_intI, v_intB, v_abs, v_ty_int_non, v_ty_int_bl, v_ty_int_int, v_ty_int_str, v_ty_int_lst, v_ty_int_tup, v_ty_int_dct, v_ty_bool_non, v_ty_bool_bl, v_ty_bool_int, v_ty_bool_str, v_ty_bool_lst, v_ty_bool_tup, v_ty_bool_dct, v_ty_str_non, v_ty_str_bl, v_ty_str_int, v_ty_str_str, v_ty_str_lst, v_ty_str_tup, v_ty_str_dct, v_ty_list_non, v_ty_list_bl, v_ty_list_int, v_ty_list_str, v_ty_list_lst, v_ty_list_tup, v_ty_list_dct, v_ty_tuple_non, v_ty_tuple_bl, v_ty_tuple_int, v_ty_tuple_str, v_ty_tuple_lst, v_ty_tuple_tup, v_ty_tuple_dct, v_ty_dict_non, v_ty_dict_bl, v_ty_dict_int, v_ty_dict_str, v_ty_dict_lst, v_ty_dict_tup, v_ty_dict_dct, v_isN_non, v_isN_int, v_isN_bl, v_isN_str, v_sliS, v_sliL, v_sliT, v_optN, v_optI, v_meT, v_join, v_walL, v_walT, v_walS, v_rng1, v_rng2, v_enum, v_zip, v_fewF, v_any1, v_any2, Nat.zero_add, Nat.reduceAdd, Nat.reduceLT, Nat.reduceLeDiff, Nat.reduceSub, Nat.reduceEqDiff, le_lim, rd_r hl, dRs_len]) rfl (by
      rw [v_rng2]
      have e1 : (small (k : Int) && small (l.length : Int)) = true := by
        unfold small
        rw [Bool.and_eq_true, Bool.and_eq_true, Bool.and_eq_true, decide_eq_true_eq, decide_eq_true_eq, decide_eq_true_eq, decide_eq_true_eq]
        omega
      rw [if_pos e1, ← upD_map]
      have e2 : ((l.length : Int) - (k : Int)).toNat = l.length - k := by omega
      rw [e2]) rfl (by rw [List.length_range']; unfold lim; omega) fun i hi => by
        have hi := List.mem_range'_1.mp hi
        have hil : i < l.length := by omega
        have hrow : BA.row l i ∈ l := BA.row_mem hil
        refine ⟨_, by simp only [exB, evE, evL, tstE, M.bnd, opt_some, bnd_ret, opt_bnd, mapO, List.length_cons, List.length_nil, List.map_cons, List.map_nil, List.replicate, List.getElem?_cons_zero, List.getElem?_cons_succ, List.cons_append, List.nil_append, if_true, if_false, Bool.false_eq_true, Nat.sub_self, Bool.true_and, Bool.and_true, Bool.false_and, Bool.and_false, Bool.not_true, Bool.not_false, Bool.or_false, Bool.false_or, Bool.true_or, Bool.or_true, decide_true, decide_false, Option.map_some, permD, setW, List.set_cons_zero, List.set_cons_succ, bindP, bindPs, v_rd, v_dat, v_non, v_bl, v_int, v_lst, v_tup, v_str, v_add, v_sub, v_mul, v_fdiv, v_mod, v_cat, v_app, v_neg, v_lt, v_le, v_gt, v_ge, v_eq, v_isN, v_notN, v_in, v_nin, v_inS, v_eqI, v_eqS, v_neI, v_neS, v_lenS, v_lenL, v_lenT, v_repr, v_intI, v_intB, v_abs, v_ty_int_non, v_ty_int_bl, v_ty_int_int, v_ty_int_str, v_ty_int_lst, v_ty_int_tup, v_ty_int_dct, v_ty_bool_non, v_ty_bool_bl, v_ty_bool_int, v_ty_bool_str, v_ty_bool_lst, v_ty_bool_tup, v_ty_bool_dct, v_ty_str_non, v_ty_str_bl, v_ty_str_int, v_ty_str_str, v_ty_str_lst, v_ty_str_tup, v_ty_str_dct, v_ty_list_non, v_ty_list_bl, v_ty_list_int, v_ty_list_str, v_ty_list_lst, v_ty_list_tup, v_ty_list_dct, v_ty_tuple_non, v_ty_tuple_bl, v_ty_tuple_int, v_ty_tuple_str, v_ty_tuple_lst, v_ty_tuple_tup, v_ty_tuple_dct, v_ty_dict_non, v_ty_dict_bl, v_ty_dict_int, v_ty_dict_str, v_ty_dict_lst, v_ty_dict_tup, v_ty_dict_dct, v_isN_non, v_isN_int, v_isN_bl, v_isN_str, v_sliS, v_sliL, v_sliT, v_optN, v_optI, v_meT, v_join, v_walL, v_walT, v_walS, v_rng1, v_rng2, v_enum, v_zip, v_fewF, v_any1, v_any2, Nat.zero_add, Nat.reduceAdd, Nat.reduceLT, Nat.reduceLeDiff, Nat.reduceSub, Nat.reduceEqDiff, le_lim]; rfl, el_if ?_ fun _ => ?_⟩
        · simp only [exB, evE, evL, tstE, M.bnd, opt_some, bnd_ret, opt_bnd, mapO, List.length_cons, List.length_nil, List.map_cons, List.map_nil, List.replicate, List.getElem?_cons_zero, List.getElem?_cons_succ, List.cons_append, List.nil_append, if_true, if_false, Bool.false_eq_true, Nat.sub_self, Bool.true_and, Bool.and_true, Bool.false_and, Bool.and_false, Bool.not_true, Bool.not_false, Bool.or_false, Bool.false_or, Bool.true_or, Bool.or_true, decide_true, decide_false, Option.map_some, permD, setW, List.set_cons_zero, List.set_cons_succ, bindP, bindPs, v_rd, v_dat, v_non, v_bl, v_int, v_lst, v_tup, v_str, v_add, v_sub, v_mul, v_fdiv, v_mod, v_cat, v_app, v_neg, v_lt, v_le, v_gt, v_ge, v_eq, v_isN, v_notN, v_in, v_nin, v_inS, v_eqI, v_eqS, v_neI, v_neS, v_lenS, v_lenL, v_lenT, v_repr, v_intI, v_intB, v_abs, v_ty_int_non, v_ty_int_bl, v_ty_int_int, v_ty_int_str, v_ty_int_lst, v_ty_int_tup, v_ty_int_dct, v_ty_bool_non, v_ty_bool_bl, v_ty_bool_int, v_ty_bool_str, v_ty_bool_lst, v_ty_bool_tup, v_ty_bool_dct, v_ty_str_non, v_ty_str_bl, v_ty_str_int, v_ty_str_str, v_ty_str_lst, v_ty_str_tup, v_ty_str_dct, v_ty_list_non, v_ty_list_bl, v_ty_list_int, v_ty_list_str, v_ty_list_lst, v_ty_list_tup, v_ty_list_dct, v_ty_tuple_non, v_ty_tuple_bl, v_ty_tuple_int, v_ty_tuple_str, v_ty_tuple_lst, v_ty_tuple_tup, v_ty_tuple_dct, v_ty_dict_non, v_ty_dict_bl, v_ty_dict_int, v_ty_dict_str, v_ty_dict_lst, v_ty_dict_tup, v_ty_dict_dct, v_isN_non, v_isN_int, v_isN_bl, v_isN_str, v_sliS, v_sliL, v_sliT, v_optN, v_optI, v_meT, v_join, v_walL, v_walT, v_walS, v_rng1, v_rng2, v_enum, v_zip, v_fewF, v_any1, v_any2, Nat.zero_add, Nat.reduceAdd, Nat.reduceLT, Nat.reduceLeDiff, Nat.reduceSub, Nat.reduceEqDiff, le_lim, rd_r hl, atI_row hil, atI_cell (hc _ hrow)]
        · simp only [exB, evE, evL, tstE, M.bnd, opt_some, bnd_ret, opt_bnd, mapO, List.length_cons, List.length_nil, List.map_cons, List.map_nil, List.replicate, List.getElem?_cons_zero, List.getElem?_cons_succ, List.cons_append, List.nil_append, if_true, if_false, Bool.false_eq_true, Nat.sub_self, Bool.true_and, Bool.and_true, Bool.false_and, Bool.and_false, Bool.not_true, Bool.not_false, Bool.or_false, Bool.false_or, Bool.true_or, Bool.or_true, decide_true, decide_false, Option.map_some, permD, setW, List.set_cons_zero, List.set_cons_succ, bindP, bindPs, v_rd, v_dat, v_non, v_bl, v_int, v_lst, v_tup, v_str, v_add, v_sub, v_mul, v_fdiv, v_mod, v_cat, v_app, v_neg, v_lt, v_le, v_gt, v_ge, v_eq, v_isN, v_notN, v_in, v_nin, v_inS, v_eqI, v_eqS, v_neI, v_neS, v_lenS, v_lenL, v_lenT, v_repr, v_intI, v_intB, v_abs, v_ty_int_non, v_ty_int_bl, v_ty_int_int, v_ty_int_str, v_ty_int_lst, v_ty_int_tup, v_ty_int_dct, v_ty_bool_non, v_ty_bool_bl, v_ty_bool_int, v_ty_bool_str, v_ty_bool_lst, v_ty_bool_tup, v_ty_bool_dct, v_ty_str_non, v_ty_str_bl, v_ty_str_int, v_ty_str_str, v_ty_str_lst, v_ty_str_tup, v_ty_str_dct, v_ty_list_non, v_ty_list_bl, v_ty_list_int, v_ty_list_str, v_ty_list_lst, v_ty_list_tup, v_ty_list_dct, v_ty_tuple_non, v_ty_tuple_bl, v_ty_tuple_int, v_ty_tuple_str, v_ty_tuple_lst, v_ty_tuple_tup, v_ty_tuple_dct, v_ty_dict_non, v_ty_dict_bl, v_ty_dict_int, v_ty_dict_str, v_ty_dict_lst, v_ty_dict_tup, v_ty_dict_dct, v_isN_non, v_isN_int, v_isN_bl, v_isN_str, v_sliS, v_sliL, v_sliT, v_optN, v_optI, v_meT, v_join, v_walL, v_walT, v_walS, v_rng1, v_rng2, v_enum, v_zip, v_fewF, v_any1, v_any2, Nat.zero_add, Nat.reduceAdd, Nat.reduceLT, Nat.reduceLeDiff, Nat.reduceSub, Nat.reduceEqDiff, le_lim]
  have e : (BA.spots l j k (l.length - k)).map (fun (i : Nat) => D.int (i : Int)) = dI (BA.spots l j k (l.length - k)) := rfl
  simp only [s1__law_rank, exB, k1__law_rank]
  rw [q, fm_if, spots_filter, e]
  simp only [exB, evE, evL, tstE, M.bnd, opt_some, bnd_ret, opt_bnd, mapO, List.length_cons, List.length_nil, List.map_cons, List.map_nil, List.replicate, List.getElem?_cons_zero, List.getElem?_cons_succ, List.cons_append, List.nil_append, if_true, if_false, Bool.false_eq_true, Nat.sub_self, Bool.true_and, Bool.and_true, Bool.false_and, Bool.and_false, Bool.not_true, Bool.not_false, Bool.or_false, Bool.false_or, Bool.true_or, Bool.or_true, decide_true, decide_false, Option.map_some, permD, setW, List.set_cons_zero, List.set_cons_succ, bindP, bindPs, v_rd, v_dat, v_non, v_bl, v_int, v_lst, v_tup, v_str, v_add, v_sub, v_mul, v_fdiv, v_mod, v_cat, v_app, v_neg, v_lt, v_le, v_gt, v_ge, v_eq, v_isN, v_notN, v_in, v_nin, v_inS, v_eqI, v_eqS, v_neI, v_neS, v_lenS, v_lenL, v_lenT, v_repr, v_intI, v_intB, v_abs, v_ty_int_non, v_ty_int_bl, v_ty_int_int, v_ty_int_str, v_ty_int_lst, v_ty_int_tup, v_ty_int_dct, v_ty_bool_non, v_ty_bool_bl, v_ty_bool_int, v_ty_bool_str, v_ty_bool_lst, v_ty_bool_tup, v_ty_bool_dct, v_ty_str_non, v_ty_str_bl, v_ty_str_int, v_ty_str_str, v_ty_str_lst, v_ty_str_tup, v_ty_str_dct, v_ty_list_non, v_ty_list_bl, v_ty_list_int, v_ty_list_str, v_ty_list_lst, v_ty_list_tup, v_ty_list_dct, v_ty_tuple_non, v_ty_tuple_bl, v_ty_tuple_int, v_ty_tuple_str, v_ty_tuple_lst, v_ty_tuple_tup, v_ty_tuple_dct, v_ty_dict_non, v_ty_dict_bl, v_ty_dict_int, v_ty_dict_str, v_ty_dict_lst, v_ty_dict_tup, v_ty_dict_dct, v_isN_non, v_isN_int, v_isN_bl, v_isN_str, v_sliS, v_sliL, v_sliT, v_optN, v_optI, v_meT, v_join, v_walL, v_walT, v_walS, v_rng1, v_rng2, v_enum, v_zip, v_fewF, v_any1, v_any2, Nat.zero_add, Nat.reduceAdd, Nat.reduceLT, Nat.reduceLeDiff, Nat.reduceSub, Nat.reduceEqDiff, le_lim]
theorem lr_s2 (hl : S[lx]? = some (.lst (dRs l))) {i : Nat} {r : List Nat} (hk : k < l.length) (hi : i < l.length) : exB C s2__law_rank [e0, a1, some (.r lx), some (.d (.int k)), a5, some (.d (.lst (dI (i :: r)))), a6, a7, a8, a9, a10] S = .ret (.nx, [e0, a1, some (.r lx), some (.d (.int k)), a5, some (.d (.lst (dI (i :: r)))), a6, a7, a8, a9, a10], (S.set lx (.lst (dRs (l.set k (BA.row l i))))).set lx (.lst (dRs (BA.swp [] l k i)))) := by
  have hx : lx < S.length := (List.getElem?_eq_some_iff.mp hl).1
  have h0 : subD (.lst (dI (i :: r))) (.int 0) = some (.int i) := by
    show (match L2.atI (dI (i :: r)) 0 with | some d => some d | none => none) = _
    unfold L2.atI
    rw [ixN_of (by omega) (by rw [dI_len]; simp)]
    rfl
  have e1 : L2.ixN (dRs l).length (k : Int) = some k := ixN_nat (by rw [dRs_len]; exact hk)
  have e2 : L2.ixN (dRs (l.set k (BA.row l i))).length (i : Int) = some i := ixN_nat (by rw [dRs_len, List.length_set]; exact hi)
  have e3 : (S.set lx (.lst (dRs (l.set k (BA.row l i)))))[lx]? = some (.lst (dRs (l.set k (BA.row l i)))) := set_set_get hx
  simp only [s2__law_rank, stoXs, stoX, exB, evE, evL, tstE, M.bnd, opt_some, bnd_ret, opt_bnd, mapO, List.length_cons, List.length_nil, List.map_cons, List.map_nil, List.replicate, List.getElem?_cons_zero, List.getElem?_cons_succ, List.cons_append, List.nil_append, if_true, if_false, Bool.false_eq_true, Nat.sub_self, Bool.true_and, Bool.and_true, Bool.false_and, Bool.and_false, Bool.not_true, Bool.not_false, Bool.or_false, Bool.false_or, Bool.true_or, Bool.or_true, decide_true, decide_false, Option.map_some, permD, setW, List.set_cons_zero, List.set_cons_succ, bindP, bindPs, v_rd, v_dat, v_non, v_bl, v_int, v_lst, v_tup, v_str, v_add, v_sub, v_mul, v_fdiv, v_mod, v_cat, v_app, v_neg, v_lt, v_le, v_gt, v_ge, v_eq, v_isN, v_notN, v_in, v_nin, v_inS, v_eqI, v_eqS, v_neI, v_neS, v_lenS, v_lenL, v_lenT, v_repr, v_intI, v_intB, v_abs, v_ty_int_non, v_ty_int_bl, v_ty_int_int, v_ty_int_str, v_ty_int_lst, v_ty_int_tup, v_ty_int_dct, v_ty_bool_non, v_ty_bool_bl, v_ty_bool_int, v_ty_bool_str, v_ty_bool_lst, v_ty_bool_tup, v_ty_bool_dct, v_ty_str_non, v_ty_str_bl, v_ty_str_int, v_ty_str_str, v_ty_str_lst, v_ty_str_tup, v_ty_str_dct, v_ty_list_non, v_ty_list_bl, v_ty_list_int, v_ty_list_str, v_ty_list_lst, v_ty_list_tup, v_ty_list_dct, v_ty_tuple_non, v_ty_tuple_bl, v_ty_tuple_int, v_ty_tuple_str, v_ty_tuple_lst, v_ty_tuple_tup, v_ty_tuple_dct, v_ty_dict_non, v_ty_dict_bl, v_ty_dict_int, v_ty_dict_str, v_ty_dict_lst, v_ty_dict_tup, v_ty_dict_dct, v_isN_non, v_isN_int, v_isN_bl, v_isN_str, v_sliS, v_sliL, v_sliT, v_optN, v_optI, v_meT, v_join, v_walL, v_walT, v_walS, v_rng1, v_rng2, v_enum, v_zip, v_fewF, v_any1, v_any2, Nat.zero_add, Nat.reduceAdd, Nat.reduceLT, Nat.reduceLeDiff, Nat.reduceSub, Nat.reduceEqDiff, le_lim, rd_r hl, h0, atI_row hk, atI_row hi, hl, e1, dRs_set, e3, rd_r e3, e2, row_set]
theorem lr_s3 (hl : S[lx]? = some (.lst (dRs l))) (hk : k < l.length) : exB C s3__law_rank [e0, a1, some (.r lx), some (.d (.int k)), a5, a6, a4, a7, a8, a9, a10] S = .ret (.nx, [e0, a1, some (.r lx), some (.d (.int k)), a5, a6, some (.d (dR (BA.row l k))), a7, a8, a9, a10], S) := by
  simp only [s3__law_rank, exB, evE, evL, tstE, M.bnd, opt_some, bnd_ret, opt_bnd, mapO, List.length_cons, List.length_nil, List.map_cons, List.map_nil, List.replicate, List.getElem?_cons_zero, List.getElem?_cons_succ, List.cons_append, List.nil_append, if_true, if_false, Bool.false_eq_true, Nat.sub_self, Bool.true_and, Bool.and_true, Bool.false_and, Bool.and_false, Bool.not_true, Bool.not_false, Bool.or_false, Bool.false_or, Bool.true_or, Bool.or_true, decide_true, decide_false, Option.map_some, permD, setW, List.set_cons_zero, List.set_cons_succ, bindP, bindPs, v_rd, v_dat, v_non, v_bl, v_int, v_lst, v_tup, v_str, v_add, v_sub, v_mul, v_fdiv, v_mod, v_cat, v_app, v_neg, v_lt, v_le, v_gt, v_ge, v_eq, v_isN, v_notN, v_in, v_nin, v_inS, v_eqI, v_eqS, v_neI, v_neS, v_lenS, v_lenL, v_lenT, v_repr, v_intI, v_intB, v_abs, v_ty_int_non, v_ty_int_bl, v_ty_int_int, v_ty_int_str, v_ty_int_lst, v_ty_int_tup, v_ty_int_dct, v_ty_bool_non, v_ty_bool_bl, v_ty_bool_int, v_ty_bool_str, v_ty_bool_lst, v_ty_bool_tup, v_ty_bool_dct, v_ty_str_non, v_ty_str_bl, v_ty_str_int, v_ty_str_str, v_ty_str_lst, v_ty_str_tup, v_ty_str_dct, v_ty_list_non, v_ty_list_bl, v_ty_list_int, v_ty_list_str, v_ty_list_lst, v_ty_list_tup, v_ty_list_dct, v_ty_tuple_non, v_ty_tuple_bl, v_ty_tuple_int, v_ty_tuple_str, v_ty_tuple_lst, v_ty_tuple_tup, v_ty_tuple_dct, v_ty_dict_non, v_ty_dict_bl, v_ty_dict_int, v_ty_dict_str, v_ty_dict_lst, v_ty_dict_tup, v_ty_dict_dct, v_isN_non, v_isN_int, v_isN_bl, v_isN_str, v_sliS, v_sliL, v_sliT, v_optN, v_optI, v_meT, v_join, v_walL, v_walT, v_walS, v_rng1, v_rng2, v_enum, v_zip, v_fewF, v_any1, v_any2, Nat.zero_add, Nat.reduceAdd, Nat.reduceLT, Nat.reduceLeDiff, Nat.reduceSub, Nat.reduceEqDiff, le_lim, rd_r hl, atI_row hk]
theorem lr_s4 (hl : S[lx]? = some (.lst (dRs l))) (hk : k < l.length) (hm : ∀ r ∈ l, r.length = m) (hlm : line.length = m) (hj : j < m) (hm2 : m ≤ 1000) (hlen : l.length ≤ 1000) (hb : ∀ r ∈ l.drop (k + 1), Sm b r) (hbl : Sm b line) (hd : dv ≠ 0) (hdb : dv.natAbs < 2 ^ b) (h0 : 0 < b) (h9 : b ≤ 9000) :
    exB C s4__law_rank [e0, some (.d (.int j)), some (.r lx), some (.d (.int k)), some (.d (.int dv)), a5, some (.d (dR line)), a7, a8, a9, a10] S = .ret (.nx, [e0, some (.d (.int j)), some (.r S.length), some (.d (.int k)), some (.d (.int dv)), a5, some (.d (dR line)), a7, a8, a9, a10], S ++ [.lst (dRs (l.take (k + 1) ++ (l.drop (k + 1)).map (BA.clr · line j dv)))]) := by
  have ek : ((k : Int) + 1) = ((k + 1 : Nat) : Int) := rfl
  have l9 : dv.natAbs.log2 < 9000 := Nat.lt_of_lt_of_le (lg hdb h0) h9
  have pv : (BA.cell line j).natAbs < 2 ^ b := hbl _ (by unfold BA.cell; rw [BA.getD_at (by omega)]; exact List.getElem_mem _)
  have q := ev_of (C := C) (m := false) (chk := false) (pt := .name 7) (k := .val) (src := .cons (.slice (.var 2) (.cons (.bin .add (.var 3) (.dat (.int 1))) (.nil)) (.nil)) (.nil)) (cond := .dat (.bl true)) (elt := k2__law_rank) (env := [e0, some (.d (.int j)), some (.r lx), some (.d (.int k)), some (.d (.int dv)), a5, some (.d (dR line)), a7, a8, a9, a10]) (S := S) (S1 := S) (ws := [.d (.lst (dRs (l.drop (k + 1))))]) (ds := [.lst (dRs (l.drop (k + 1)))])
    (l.drop (k + 1)) dR (fun r => some (dR (BA.clr r line j dv))) (by simp only [exB, evE, evL, tstE, M.bnd, opt_some, bnd_ret, opt_bnd, mapO, List.length_cons, List.length_nil, List.map_cons, List.map_nil, List.replicate, List.getElem?_cons_zero, List.getElem?_cons_succ, List.cons_append, List.nil_append, if_true, if_false, Bool.false_eq_true, Nat.sub_self, Bool.true_and, Bool.and_true, Bool.false_and, Bool.and_false, Bool.not_true, Bool.not_false, Bool.or_false, Bool.false_or, Bool.true_or, Bool.or_true, decide_true, decide_false, Option.map_some, permD, setW, List.set_cons_zero, List.set_cons_succ, bindP, bindPs, v_rd, v_dat, v_non, v_bl, v_int, v_lst, v_tup, v_str, v_add, v_sub, v_mul, v_fdiv, v_mod, v_cat, v_app, v_neg, v_lt, v_le, v_gt, v_ge, v_eq, v_isN, v_notN, v_in, v_nin, v_inS, v_eqI, v_eqS, v_neI, v_neS, v_lenS, v_lenL, v_lenT, v_repr, v_intI, v_intB, v_abs, v_ty_int_non, v_ty_int_bl, v_ty_int_int, v_ty_int_str, v_ty_int_lst, v_ty_int_tup, v_ty_int_dct, v_ty_bool_non, v_ty_bool_bl, v_ty_bool_int, v_ty_bool_str, v_ty_bool_lst, v_ty_bool_tup, v_ty_bool_dct, v_ty_str_non, v_ty_str_bl, v_ty_str_int, v_ty_str_str, v_ty_str_lst, v_ty_str_tup, v_ty_str_dct, v_ty_list_non, v_ty_list_bl, v_ty_list_int, v_ty_list_str, v_ty_list_lst, v_ty_list_tup, v_ty_list_dct, v_ty_tuple_non, v_ty_tuple_bl, v_ty_tuple_int, v_ty_tuple_str, v_ty_tuple_lst, v_ty_tuple_tup, v_ty_tuple_dct, v_ty_dict_non, v_ty_dict_bl, v_ty_dict_int, v_ty_dict_str, v_ty_dict_lst, v_ty_dict_tup, v_ty_dict_dct, v_isN_non, v_isN_int, v_isN_bl, v_isN_str, v_sliS, v_sliL, v_sliT, v_optN, v_optI, v_meT, v_join, v_walL, v_walT, v_walS, v_rng1, v_rng2, v_enum, v_zip, v_fewF, v_any1, v_any2, Nat.zero_add, Nat.reduceAdd, Nat.reduceLT, Nat.reduceLeDiff, Nat.reduceSub, Nat.reduceEqDiff, le_lim, rd_r hl, ek, cutL_drop l (show k + 1 ≤ l.length by omega)]) rfl rfl rfl (by rw [List.length_drop]; unfold lim; omega) fun r hr => by
      have hrl : r.length = m := hm r (List.mem_of_mem_drop hr)
      have hrb := hb r hr
      have tm : (BA.cell r j).natAbs < 2 ^ b := hrb _ (by unfold BA.cell; rw [BA.getD_at (by omega)]; exact List.getElem_mem _)
      refine ⟨[e0, some (.d (.int j)), some (.r lx), some (.d (.int k)), some (.d (.int dv)), a5, some (.d (dR line)), some (.d (dR r)), a8, a9, a10], by simp only [exB, evE, evL, tstE, M.bnd, opt_some, bnd_ret, opt_bnd, mapO, List.length_cons, List.length_nil, List.map_cons, List.map_nil, List.replicate, List.getElem?_cons_zero, List.getElem?_cons_succ, List.cons_append, List.nil_append, if_true, if_false, Bool.false_eq_true, Nat.sub_self, Bool.true_and, Bool.and_true, Bool.false_and, Bool.and_false, Bool.not_true, Bool.not_false, Bool.or_false, Bool.false_or, Bool.true_or, Bool.or_true, decide_true, decide_false, Option.map_some, permD, setW, List.set_cons_zero, List.set_cons_succ, bindP, bindPs, v_rd, v_dat, v_non, v_bl, v_int, v_lst, v_tup, v_str, v_add, v_sub, v_mul, v_fdiv, v_mod, v_cat, v_app, v_neg, v_lt, v_le, v_gt, v_ge, v_eq, v_isN, v_notN, v_in, v_nin, v_inS, v_eqI, v_eqS, v_neI, v_neS, v_lenS, v_lenL, v_lenT, v_repr, v_intI, v_intB, v_abs, v_ty_int_non, v_ty_int_bl, v_ty_int_int, v_ty_int_str, v_ty_int_lst, v_ty_int_tup, v_ty_int_dct, v_ty_bool_non, v_ty_bool_bl, v_ty_bool_int, v_ty_bool_str, v_ty_bool_lst, v_ty_bool_tup, v_ty_bool_dct, v_ty_str_non, v_ty_str_bl, v_ty_str_int, v_ty_str_str, v_ty_str_lst, v_ty_str_tup, v_ty_str_dct, v_ty_list_non, v_ty_list_bl, v_ty_list_int, v_ty_list_str, v_ty_list_lst, v_ty_list_tup, v_ty_list_dct, v_ty_tuple_non, v_ty_tuple_bl, v_ty_tuple_int, v_ty_tuple_str, v_ty_tuple_lst, v_ty_tuple_tup, v_ty_tuple_dct, v_ty_dict_non, v_ty_dict_bl, v_ty_dict_int, v_ty_dict_str, v_ty_dict_lst, v_ty_dict_tup, v_ty_dict_dct, v_isN_non, v_isN_int, v_isN_bl, v_isN_str, v_sliS, v_sliL, v_sliT, v_optN, v_optI, v_meT, v_join, v_walL, v_walT, v_walS, v_rng1, v_rng2, v_enum, v_zip, v_fewF, v_any1, v_any2, Nat.zero_add, Nat.reduceAdd, Nat.reduceLT, Nat.reduceLeDiff, Nat.reduceSub, Nat.reduceEqDiff, le_lim], el_yes ?_⟩
      have q2 := ev_of (C := C) (m := false) (chk := false) (pt := .cons (.name 9) (.cons (.name 10) .nil)) (k := .zip) (src := .cons (.var 7) (.cons (.var 6) .nil)) (cond := .dat (.bl true)) (elt := .bin .fdiv (.bin .sub (.bin .mul (.sub (.var 6) (.var 1)) (.var 9)) (.bin .mul (.sub (.var 7) (.var 1)) (.var 10))) (.var 4)) (env := [e0, some (.d (.int j)), some (.r lx), some (.d (.int k)), some (.d (.int dv)), a5, some (.d (dR line)), some (.d (dR r)), a8, a9, a10]) (S := S) (S1 := S) (ws := [.d (dR r), .d (dR line)]) (ds := [dR r, dR line])
        (r.zip line) (fun p => .tup [.int p.1, .int p.2]) (fun p => some (D.int ((BA.cell line j * p.1 - BA.cell r j * p.2).fdiv dv))) (by simp only [exB, evE, evL, tstE, M.bnd, opt_some, bnd_ret, opt_bnd, mapO, List.length_cons, List.length_nil, List.map_cons, List.map_nil, List.replicate, List.getElem?_cons_zero, List.getElem?_cons_succ, List.cons_append, List.nil_append, if_true, if_false, Bool.false_eq_true, Nat.sub_self, Bool.true_and, Bool.and_true, Bool.false_and, Bool.and_false, Bool.not_true, Bool.not_false, Bool.or_false, Bool.false_or, Bool.true_or, Bool.or_true, decide_true, decide_false, Option.map_some, permD, setW, List.set_cons_zero, List.set_cons_succ, bindP, bindPs, v_rd, v_dat, v_non, v_bl, v_int, v_lst, v_tup, v_str, v_add, v_sub, v_mul, v_fdiv, v_mod, v_cat, v_app, v_neg, v_lt, v_le, v_gt, v_ge, v_eq, v_isN, v_notN, v_in, v_nin, v_inS, v_eqI, v_eqS, v_neI, v_neS, v_lenS, v_lenL, v_lenT, v_repr, v_intI, v_intB, v_abs, v_ty_int_non, v_ty_int_bl, v_ty_int_int, v_ty_int_str, v_ty_int_lst, v_ty_int_tup, v_ty_int_dct, v_ty_bool_non, v_ty_bool_bl, v_ty_bool_int, v_ty_bool_str, v_ty_bool_lst, v_ty_bool_tup, v_ty_bool_dct, v_ty_str_non, v_ty_str_bl, v_ty_str_int, v_ty_str_str, v_ty_str_lst, v_ty_str_tup, v_ty_str_dct, v_ty_list_non, v_ty_list_bl, v_ty_list_int, v_ty_list_str, v_ty_list_lst, v_ty_list_tup, v_ty_list_dct, v_ty_tuple_non, v_ty_tuple_bl, v_ty_tuple_int, v_ty_tuple_str, v_ty_tuple_lst, v_ty_tuple_tup, v_ty_tuple_dct, v_ty_dict_non, v_ty_dict_bl, v_ty_dict_int, v_ty_dict_str, v_ty_dict_lst, v_ty_dict_tup, v_ty_dict_dct, v_isN_non, v_isN_int, v_isN_bl, v_isN_str, v_sliS, v_sliL, v_sliT, v_optN, v_optI, v_meT, v_join, v_walL, v_walT, v_walS, v_rng1, v_rng2, v_enum, v_zip, v_fewF, v_any1, v_any2, Nat.zero_add, Nat.reduceAdd, Nat.reduceLT, Nat.reduceLeDiff, Nat.reduceSub, Nat.reduceEqDiff, le_lim]) rfl (by show some (zipD _ _) = _; rw [zipD_map]) rfl (by rw [List.length_zip]; unfold lim; omega) fun p hp => by
          have h1 := hrb p.1 (List.of_mem_zip hp).1
          have h2 := hbl p.2 (List.of_mem_zip hp).2
          refine ⟨_, by simp only [exB, evE, evL, tstE, M.bnd, opt_some, bnd_ret, opt_bnd, mapO, List.length_cons, List.length_nil, List.map_cons, List.map_nil, List.replicate, List.getElem?_cons_zero, List.getElem?_cons_succ, List.cons_append, List.nil_append, if_true, if_false, Bool.false_eq_true, Nat.sub_self, Bool.true_and, Bool.and_true, Bool.false_and, Bool.and_false, Bool.not_true, Bool.not_false, Bool.or_false, Bool.false_or, Bool.true_or, Bool.or_true, decide_true, decide_false, Option.map_some, permD, setW, List.set_cons_zero, List.set_cons_succ, bindP, bindPs, v_rd, v_dat, v_non, v_bl, v_int, v_lst, v_tup, v_str, v_add, v_sub, v_mul, v_fdiv, v_mod, v_cat, v_app, v_neg, v_lt, v_le, v_gt, v_ge, v_eq, v_isN, v_notN, v_in, v_nin, v_inS, v_eqI, v_eqS, v_neI, v_neS, v_lenS, v_lenL, v_lenT, v_repr, v_intI, v_intB, v_abs, v_ty_int_non, v_ty_int_bl, v_ty_int_int, v_ty_int_str, v_ty_int_lst, v_ty_int_tup, v_ty_int_dct, v_ty_bool_non, v_ty_bool_bl, v_ty_bool_int, v_ty_bool_str, v_ty_bool_lst, v_ty_bool_tup, v_ty_bool_dct, v_ty_str_non, v_ty_str_bl, v_ty_str_int, v_ty_str_str, v_ty_str_lst, v_ty_str_tup, v_ty_str_dct, v_ty_list_non, v_ty_list_bl, v_ty_list_int, v_ty_list_str, v_ty_list_lst, v_ty_list_tup, v_ty_list_dct, v_ty_tuple_non, v_ty_tuple_bl, v_ty_tuple_int, v_ty_tuple_str, v_ty_tuple_lst, v_ty_tuple_tup, v_ty_tuple_dct, v_ty_dict_non, v_ty_dict_bl, v_ty_dict_int, v_ty_dict_str, v_ty_dict_lst, v_ty_dict_tup, v_ty_dict_dct, v_isN_non, v_isN_int, v_isN_bl, v_isN_str, v_sliS, v_sliL, v_sliT, v_optN, v_optI, v_meT, v_join, v_walL, v_walT, v_walS, v_rng1, v_rng2, v_enum, v_zip, v_fewF, v_any1, v_any2, Nat.zero_add, Nat.reduceAdd, Nat.reduceLT, Nat.reduceLeDiff, Nat.reduceSub, Nat.reduceEqDiff, le_lim]; rfl, el_yes ?_⟩
          simp only [exB, evE, evL, tstE, M.bnd, opt_some, bnd_ret, opt_bnd, mapO, List.length_cons, List.length_nil, List.map_cons, List.map_nil, List.replicate, List.getElem?_cons_zero, List.getElem?_cons_succ, List.cons_append, List.nil_append, if_true, if_false, Bool.false_eq_true, Nat.sub_self, Bool.true_and, Bool.and_true, Bool.false_and, Bool.and_false, Bool.not_true, Bool.not_false, Bool.or_false, Bool.false_or, Bool.true_or, Bool.or_true, decide_true, decide_false, Option.map_some, permD, setW, List.set_cons_zero, List.set_cons_succ, bindP, bindPs, v_rd, v_dat, v_non, v_bl, v_int, v_lst, v_tup, v_str, v_add, v_sub, v_mul, v_fdiv, v_mod, v_cat, v_app, v_neg, v_lt, v_le, v_gt, v_ge, v_eq, v_isN, v_notN, v_in, v_nin, v_inS, v_eqI, v_eqS, v_neI, v_neS, v_lenS, v_lenL, v_lenT, v_repr, v_intI, v_intB, v_abs, v_ty_int_non, v_ty_int_bl, v_ty_int_int, v_ty_int_str, v_ty_int_lst, v_ty_int_tup, v_ty_int_dct, v_ty_bool_non, v_ty_bool_bl, v_ty_bool_int, v_ty_bool_str, v_ty_bool_lst, v_ty_bool_tup, v_ty_bool_dct, v_ty_str_non, v_ty_str_bl, v_ty_str_int, v_ty_str_str, v_ty_str_lst, v_ty_str_tup, v_ty_str_dct, v_ty_list_non, v_ty_list_bl, v_ty_list_int, v_ty_list_str, v_ty_list_lst, v_ty_list_tup, v_ty_list_dct, v_ty_tuple_non, v_ty_tuple_bl, v_ty_tuple_int, v_ty_tuple_str, v_ty_tuple_lst, v_ty_tuple_tup, v_ty_tuple_dct, v_ty_dict_non, v_ty_dict_bl, v_ty_dict_int, v_ty_dict_str, v_ty_dict_lst, v_ty_dict_tup, v_ty_dict_dct, v_isN_non, v_isN_int, v_isN_bl, v_isN_str, v_sliS, v_sliL, v_sliT, v_optN, v_optI, v_meT, v_join, v_walL, v_walT, v_walS, v_rng1, v_rng2, v_enum, v_zip, v_fewF, v_any1, v_any2, Nat.zero_add, Nat.reduceAdd, Nat.reduceLT, Nat.reduceLeDiff, Nat.reduceSub, Nat.reduceEqDiff, le_lim, atI_cell (show j < line.length by omega), atI_cell (show j < r.length by omega), mulok pv h1 h0 h9, mulok tm h2 h0 h9, v_fdivZ, if_pos (And.intro hd l9)]
      unfold k2__law_rank
      rw [q2, fm_some]
      show M.ret (W.d (.lst ((r.zip line).map fun p => D.int ((BA.cell line j * p.1 - BA.cell r j * p.2).fdiv dv))), S) = _
      unfold dR BA.clr
      rw [List.map_zipWith, zip_zipWith (fun p q => D.int ((BA.cell line j * p - BA.cell r j * q).fdiv dv))]
      congr 5
      funext p q
      rw [Int.mul_comm]
  have e1 : (dRs (l.take (k + 1))).length + (dRs ((l.drop (k + 1)).map (BA.clr · line j dv))).length ≤ lim := by
    rw [dRs_len, dRs_len, List.length_map, List.length_take, List.length_drop]
    unfold lim
    omega
  have e2 : (l.drop (k + 1)).map (fun r => dR (BA.clr r line j dv)) = dRs ((l.drop (k + 1)).map (BA.clr · line j dv)) := by
    unfold dRs
    rw [List.map_map]
    rfl
  have e3 : dRs (l.take (k + 1)) ++ dRs ((l.drop (k + 1)).map (BA.clr · line j dv)) = dRs (l.take (k + 1) ++ (l.drop (k + 1)).map (BA.clr · line j dv)) := by unfold dRs; rw [List.map_append]
  have q' : evE C k3__law_rank [e0, some (.d (.int j)), some (.r lx), some (.d (.int k)), some (.d (.int dv)), a5, some (.d (dR line)), a7, a8, a9, a10] S = .ret (.d (.lst (dRs ((l.drop (k + 1)).map (BA.clr · line j dv)))), S) := by
    unfold k3__law_rank
    rw [q, fm_some, e2]
    rfl
  simp only [s4__law_rank, x0__law_rank, exB, evE, evL, tstE, M.bnd, opt_some, bnd_ret, opt_bnd, mapO, List.length_cons, List.length_nil, List.map_cons, List.map_nil, List.replicate, List.getElem?_cons_zero, List.getElem?_cons_succ, List.cons_append, List.nil_append, if_true, if_false, Bool.false_eq_true, Nat.sub_self, Bool.true_and, Bool.and_true, Bool.false_and, Bool.and_false, Bool.not_true, Bool.not_false, Bool.or_false, Bool.false_or, Bool.true_or, Bool.or_true, decide_true, decide_false, Option.map_some, permD, setW, List.set_cons_zero, List.set_cons_succ, bindP, bindPs, v_rd, v_dat, v_non, v_bl, v_int, v_lst, v_tup, v_str, v_add, v_sub, v_mul, v_fdiv, v_mod, v_cat, v_app, v_neg, v_lt, v_le, v_gt, v_ge, v_eq, v_isN, v_notN, v_in, v_nin, v_inS, v_eqI, v_eqS, v_neI, v_neS, v_lenS, v_lenL, v_lenT, v_repr, v_intI, v_intB, v_abs, v_ty_int_non, v_ty_int_bl, v_ty_int_int, v_ty_int_str, v_ty_int_lst, v_ty_int_tup, v_ty_int_dct, v_ty_bool_non, v_ty_bool_bl, v_ty_bool_int, v_ty_bool_str, v_ty_bool_lst, v_ty_bool_tup, v_ty_bool_dct, v_ty_str_non, v_ty_str_bl, v_ty_str_int, v_ty_str_str, v_ty_str_lst, v_ty_str_tup, v_ty_str_dct, v_ty_list_non, v_ty_list_bl, v_ty_list_int, v_ty_list_str, v_ty_list_lst, v_ty_list_tup, v_ty_list_dct, v_ty_tuple_non, v_ty_tuple_bl, v_ty_tuple_int, v_ty_tuple_str, v_ty_tuple_lst, v_ty_tuple_tup, v_ty_tuple_dct, v_ty_dict_non, v_ty_dict_bl, v_ty_dict_int, v_ty_dict_str, v_ty_dict_lst, v_ty_dict_tup, v_ty_dict_dct, v_isN_non, v_isN_int, v_isN_bl, v_isN_str, v_sliS, v_sliL, v_sliT, v_optN, v_optI, v_meT, v_join, v_walL, v_walT, v_walS, v_rng1, v_rng2, v_enum, v_zip, v_fewF, v_any1, v_any2, Nat.zero_add, Nat.reduceAdd, Nat.reduceLT, Nat.reduceLeDiff, Nat.reduceSub, Nat.reduceEqDiff, le_lim, rd_r hl, ek, cutL_take l (show k + 1 ≤ l.length by omega), q', if_pos e1, e3, v_new]
theorem lr_s5 (hj : j < line.length) : exB C s5__law_rank [e0, some (.d (.int j)), a1, some (.d (.int k)), a4, a5, some (.d (dR line)), a7, a8, a9, a10] S = .ret (.nx, [e0, some (.d (.int j)), a1, some (.d (.int ((k + 1 : Nat) : Int))), some (.d (.int (BA.cell line j))), a5, some (.d (dR line)), a7, a8, a9, a10], S) := by
  simp only [s5__law_rank, x1__law_rank, exB, evE, evL, tstE, M.bnd, opt_some, bnd_ret, opt_bnd, mapO, List.length_cons, List.length_nil, List.map_cons, List.map_nil, List.replicate, List.getElem?_cons_zero, List.getElem?_cons_succ, List.cons_append, List.nil_append, if_true, if_false, Bool.false_eq_true, Nat.sub_self, Bool.true_and, Bool.and_true, Bool.false_and, Bool.and_false, Bool.not_true, Bool.not_false, Bool.or_false, Bool.false_or, Bool.true_or, Bool.or_true, decide_true, decide_false, Option.map_some, permD, setW, List.set_cons_zero, List.set_cons_succ, bindP, bindPs, v_rd, v_dat, v_non, v_bl, v_int, v_lst, v_tup, v_str, v_add, v_sub, v_mul, v_fdiv, v_mod, v_cat, v_app, v_neg, v_lt, v_le, v_gt, v_ge, v_eq, v_isN, v_notN, v_in, v_nin, v_inS, v_eqI, v_eqS, v_neI, v_neS, v_lenS, v_lenL, v_lenT, v_repr, v_intI, v_intB, v_abs, v_ty_int_non, v_ty_int_bl, v_ty_int_int, v_ty_int_str, v_ty_int_lst, v_ty_int_tup, v_ty_int_dct, v_ty_bool_non, v_ty_bool_bl, v_ty_bool_int, v_ty_bool_str, v_ty_bool_lst, v_ty_bool_tup, v_ty_bool_dct, v_ty_str_non, v_ty_str_bl, v_ty_str_int, v_ty_str_str, v_ty_str_lst, v_ty_str_tup, v_ty_str_dct, v_ty_list_non, v_ty_list_bl, v_ty_list_int, v_ty_list_str, v_ty_list_lst, v_ty_list_tup, v_ty_list_dct, v_ty_tuple_non, v_ty_tuple_bl, v_ty_tuple_int, v_ty_tuple_str, v_ty_tuple_lst, v_ty_tuple_tup, v_ty_tuple_dct, v_ty_dict_non, v_ty_dict_bl, v_ty_dict_int, v_ty_dict_str, v_ty_dict_lst, v_ty_dict_tup, v_ty_dict_dct, v_isN_non, v_isN_int, v_isN_bl, v_isN_str, v_sliS, v_sliL, v_sliT, v_optN, v_optI, v_meT, v_join, v_walL, v_walT, v_walS, v_rng1, v_rng2, v_enum, v_zip, v_fewF, v_any1, v_any2, Nat.zero_add, Nat.reduceAdd, Nat.reduceLT, Nat.reduceLeDiff, Nat.reduceSub, Nat.reduceEqDiff, le_lim, atI_cell hj]
  rfl
end
/-- what must hold for the law's own steps to be let -/
structure GoodR (b m : Nat) (rows : BA.Rows) : Prop where
  len : ∀ r ∈ rows, r.length = m
  few : rows.length ≤ 100
  wide : m ≤ 100
  fine : ∀ j, BA.Fine b ((BA.runR rows j).left.drop (BA.runR rows j).k) (BA.runR rows j).d
  b0 : 0 < b
  b9 : b ≤ 9000
section
variable {C : Calls} {n b m j : Nat} {rows : BA.Rows} {env : EnvD} {S : Sto}
theorem lr_turn (g : GoodR b m rows) (hj : j < m) (hI : IR rows j env S) : ∃ env' env2 S2, bindP (.name 1) (.int (j : Int)) env = some env' ∧ exB C y1__law_rank env' S = .ret (.nx, env2, S2) ∧ IR rows (j + 1) env2 S2 := by
  obtain ⟨lx, b1, a5, a6, a7, a8, a9, a10, rfl, hS⟩ := hI
  obtain ⟨sh1, sh2, sh3⟩ := BA.runR_shape g.len j
  obtain ⟨f1, f2, f3⟩ := g.fine j
  have few := g.few
  have wide := g.wide
  have hx : lx < S.length := (List.getElem?_eq_some_iff.mp hS).1
  refine ⟨[some (.d (.lst (dRs rows))), some (.d (.int j)), some (.r lx), some (.d (.int ((BA.runR rows j).k : Nat))), some (.d (.int (BA.runR rows j).d)), a5, a6, a7, a8, a9, a10], ?_⟩
  unfold y1__law_rank
  rw [sq (lr_s1 hS (by omega) (by omega) fun r hr => by rw [sh2 r hr]; exact hj)]
  have stp : BA.runR rows (j + 1) = BA.stepR (BA.runR rows j) j := rfl
  unfold BA.stepR at stp
  cases e : BA.spots (BA.runR rows j).left j (BA.runR rows j).k ((BA.runR rows j).left.length - (BA.runR rows j).k) with
  | nil =>
    rw [e] at stp
    simp only at stp
    refine ⟨_, S, by simp only [exB, evE, evL, tstE, M.bnd, opt_some, bnd_ret, opt_bnd, mapO, List.length_cons, List.length_nil, List.map_cons, List.map_nil, List.replicate, List.getElem?_cons_zero, List.getElem?_cons_succ, List.cons_append, List.nil_append, if_true, if_false, Bool.false_eq_true, Nat.sub_self, Bool.true_and, Bool.and_true, Bool.false_and, Bool.and_false, Bool.not_true, Bool.not_false, Bool.or_false, Bool.false_or, Bool.true_or, Bool.or_true, decide_true, decide_false, Option.map_some, permD, setW, List.set_cons_zero, List.set_cons_succ, bindP, bindPs, v_rd, v_dat, v_non, v_bl, v_int, v_lst, v_tup, v_str, v_add, v_sub, v_mul, v_fdiv, v_mod, v_cat, v_app, v_neg, v_lt, v_le, v_gt, v_ge, v_eq, v_isN, v_notN, v_in, v_nin, v_inS, v_eqI, v_eqS, v_neI, v_neS, v_lenS, v_lenL, v_lenT, v_repr, v_intI, v_intB, v_abs, v_ty_int_non, v_ty_int_bl, v_ty_int_int, v_ty_int_str, v_ty_int_lst, v_ty_int_tup, v_ty_int_dct, v_ty_bool_non, v_ty_bool_bl, v_ty_bool_int, v_ty_bool_str, v_ty_bool_lst, v_ty_bool_tup, v_ty_bool_dct, v_ty_str_non, v_ty_str_bl, v_ty_str_int, v_ty_str_str, v_ty_str_lst, v_ty_str_tup, v_ty_str_dct, v_ty_list_non, v_ty_list_bl, v_ty_list_int, v_ty_list_str, v_ty_list_lst, v_ty_list_tup, v_ty_list_dct, v_ty_tuple_non, v_ty_tuple_bl, v_ty_tuple_int, v_ty_tuple_str, v_ty_tuple_lst, v_ty_tuple_tup, v_ty_tuple_dct, v_ty_dict_non, v_ty_dict_bl, v_ty_dict_int, v_ty_dict_str, v_ty_dict_lst, v_ty_dict_tup, v_ty_dict_dct, v_isN_non, v_isN_int, v_isN_bl, v_isN_str, v_sliS, v_sliL, v_sliT, v_optN, v_optI, v_meT, v_join, v_walL, v_walT, v_walS, v_rng1, v_rng2, v_enum, v_zip, v_fewF, v_any1, v_any2, Nat.zero_add, Nat.reduceAdd, Nat.reduceLT, Nat.reduceLeDiff, Nat.reduceSub, Nat.reduceEqDiff, le_lim], sq1 ?_, ⟨lx, some (.d (.int j)), some (.d (.lst (dI []))), a6, a7, a8, a9, a10, rfl, ?_⟩⟩
    · rw [s6__law_rank, ife_of (k := false) (by simp only [exB, evE, evL, tstE, M.bnd, opt_some, bnd_ret, opt_bnd, mapO, List.length_cons, List.length_nil, List.map_cons, List.map_nil, List.replicate, List.getElem?_cons_zero, List.getElem?_cons_succ, List.cons_append, List.nil_append, if_true, if_false, Bool.false_eq_true, Nat.sub_self, Bool.true_and, Bool.and_true, Bool.false_and, Bool.and_false, Bool.not_true, Bool.not_false, Bool.or_false, Bool.false_or, Bool.true_or, Bool.or_true, decide_true, decide_false, Option.map_some, permD, setW, List.set_cons_zero, List.set_cons_succ, bindP, bindPs, v_rd, v_dat, v_non, v_bl, v_int, v_lst, v_tup, v_str, v_add, v_sub, v_mul, v_fdiv, v_mod, v_cat, v_app, v_neg, v_lt, v_le, v_gt, v_ge, v_eq, v_isN, v_notN, v_in, v_nin, v_inS, v_eqI, v_eqS, v_neI, v_neS, v_lenS, v_lenL, v_lenT, v_repr, v_intI, v_intB, v_abs, v_ty_int_non, v_ty_int_bl, v_ty_int_int, v_ty_int_str, v_ty_int_lst, v_ty_int_tup, v_ty_int_dct, v_ty_bool_non, v_ty_bool_bl, v_ty_bool_int, v_ty_bool_str, v_ty_bool_lst, v_ty_bool_tup, v_ty_bool_dct, v_ty_str_non, v_ty_str_bl, v_ty_str_int, v_ty_str_str, v_ty_str_lst, v_ty_str_tup, v_ty_str_dct, v_ty_list_non, v_ty_list_bl, v_ty_list_int, v_ty_list_str, v_ty_list_lst, v_ty_list_tup, v_ty_list_dct, v_ty_tuple_non, v_ty_tuple_bl, v_ty_tuple_int, v_ty_tuple_str, v_ty_tuple_lst, v_ty_tuple_tup, v_ty_tuple_dct, v_ty_dict_non, v_ty_dict_bl, v_ty_dict_int, v_ty_dict_str, v_ty_dict_lst, v_ty_dict_tup, v_ty_dict_dct, v_isN_non, v_isN_int, v_isN_bl, v_isN_str, v_sliS, v_sliL, v_sliT, v_optN, v_optI, v_meT, v_join, v_walL, v_walT, v_walS, v_rng1, v_rng2, v_enum, v_zip, v_fewF, v_any1, v_any2, Nat.zero_add, Nat.reduceAdd, Nat.reduceLT, Nat.reduceLeDiff, Nat.reduceSub, Nat.reduceEqDiff, le_lim, v_neL, eqI_nil]; rfl), if_neg Bool.false_ne_true, sq0, stp]
    · rw [stp]; exact hS
  | cons i r =>
    rw [e] at stp
    simp only at stp
    obtain ⟨i', hi1, hi2, _⟩ := BA.spots_cons e
    have hi : i < (BA.runR rows j).left.length := by omega
    have hk : (BA.runR rows j).k < (BA.runR rows j).left.length := by omega
    have m1 : ∀ r ∈ BA.swp [] (BA.runR rows j).left (BA.runR rows j).k i, r ∈ (BA.runR rows j).left := fun r hr => BA.swp_mem hk hi hr
    have l1 : (BA.swp [] (BA.runR rows j).left (BA.runR rows j).k i).length = (BA.runR rows j).left.length := BA.swp_length
    have t1 := m1 _ (BA.row_mem (i := (BA.runR rows j).k) (by rw [l1]; exact hk))
    obtain ⟨L1, c1, c2, c3⟩ := BA.swp_cut hk (show (BA.runR rows j).k ≤ i by omega) hi
    have hkl : ((BA.runR rows j).left.take (BA.runR rows j).k).length = (BA.runR rows j).k := by rw [List.length_take]; omega
    have d1 : (BA.swp [] (BA.runR rows j).left (BA.runR rows j).k i).drop ((BA.runR rows j).k + 1) = L1 := by
      rw [c1, List.drop_append, hkl, List.drop_eq_nil_of_le (by omega)]
      simp
    have d2 : BA.row (BA.swp [] (BA.runR rows j).left (BA.runR rows j).k i) (BA.runR rows j).k = BA.row (BA.runR rows j).left i := by
      rw [c1]
      have := BA.row_app ((BA.runR rows j).left.take (BA.runR rows j).k) (BA.row (BA.runR rows j).left i :: L1) 0
      rw [hkl] at this
      exact this
    have q3 : ((S.set lx (.lst (dRs ((BA.runR rows j).left.set (BA.runR rows j).k (BA.row (BA.runR rows j).left i))))).set lx (.lst (dRs (BA.swp [] (BA.runR rows j).left (BA.runR rows j).k i))))[lx]? = some (.lst (dRs (BA.swp [] (BA.runR rows j).left (BA.runR rows j).k i))) := set_set_get (by simpa using hx)
    generalize hS3 : ((S.set lx (.lst (dRs ((BA.runR rows j).left.set (BA.runR rows j).k (BA.row (BA.runR rows j).left i))))).set lx (.lst (dRs (BA.swp [] (BA.runR rows j).left (BA.runR rows j).k i)))) = S3 at q3
    have e3 := lr_s2 (C := C) (e0 := some (.d (.lst (dRs rows)))) (a1 := some (.d (.int j))) (a5 := some (.d (.int (BA.runR rows j).d))) (a6 := a6) (a7 := a7) (a8 := a8) (a9 := a9) (a10 := a10) hS (r := r) hk hi
    rw [hS3] at e3
    have e4 := lr_s3 (C := C) (e0 := some (.d (.lst (dRs rows)))) (a1 := some (.d (.int j))) (a5 := some (.d (.int (BA.runR rows j).d))) (a6 := some (.d (.lst (dI (i :: r))))) (a4 := a6) (a7 := a7) (a8 := a8) (a9 := a9) (a10 := a10) q3 (k := (BA.runR rows j).k) (by rw [l1]; exact hk)
    have e5 := lr_s4 (C := C) (e0 := some (.d (.lst (dRs rows)))) (a5 := some (.d (.lst (dI (i :: r))))) (a7 := a7) (a8 := a8) (a9 := a9) (a10 := a10) (k := (BA.runR rows j).k) (b := b) (m := m) (line := BA.row (BA.swp [] (BA.runR rows j).left (BA.runR rows j).k i) (BA.runR rows j).k) q3 (by rw [l1]; exact hk) (fun r hr => sh2 r (m1 r hr)) (sh2 _ t1) hj (by omega) (by rw [l1]; omega) (fun r hr => sm_of (f1 r (c2 r (by rw [d1] at hr; exact hr)))) (by rw [d2]; exact sm_of (f1 _ c3)) f2 f3 g.b0 g.b9
    have e6 := lr_s5 (C := C) (e0 := some (.d (.lst (dRs rows)))) (a1 := some (.r S3.length)) (k := (BA.runR rows j).k) (a4 := some (.d (.int (BA.runR rows j).d))) (a5 := some (.d (.lst (dI (i :: r))))) (a7 := a7) (a8 := a8) (a9 := a9) (a10 := a10) (j := j) (line := BA.row (BA.swp [] (BA.runR rows j).left (BA.runR rows j).k i) (BA.runR rows j).k)
      (S := S3 ++ [Ob.lst (dRs ((BA.swp [] (BA.runR rows j).left (BA.runR rows j).k i).take ((BA.runR rows j).k + 1) ++ ((BA.swp [] (BA.runR rows j).left (BA.runR rows j).k i).drop ((BA.runR rows j).k + 1)).map (BA.clr · (BA.row (BA.swp [] (BA.runR rows j).left (BA.runR rows j).k i) (BA.runR rows j).k) j (BA.runR rows j).d)))]) (by rw [sh2 _ t1]; exact hj)
    have e8 := (sq e3 (t := .cons s3__law_rank (.cons s4__law_rank (.cons s5__law_rank .nil)))).trans ((sq e4).trans ((sq e5).trans (sq1 e6)))
    have e9 : tstE C (.cmp .ne (.var 5) (.lst false (.nil))) [some (.d (.lst (dRs rows))), some (.d (.int j)), some (.r lx), some (.d (.int ((BA.runR rows j).k : Nat))), some (.d (.int (BA.runR rows j).d)), some (.d (.lst (dI (i :: r)))), a6, a7, a8, a9, a10] S = .ret (true, S) := by
      simp only [exB, evE, evL, tstE, M.bnd, opt_some, bnd_ret, opt_bnd, mapO, List.length_cons, List.length_nil, List.map_cons, List.map_nil, List.replicate, List.getElem?_cons_zero, List.getElem?_cons_succ, List.cons_append, List.nil_append, if_true, if_false, Bool.false_eq_true, Nat.sub_self, Bool.true_and, Bool.and_true, Bool.false_and, Bool.and_false, Bool.not_true, Bool.not_false, Bool.or_false, Bool.false_or, Bool.true_or, Bool.or_true, decide_true, decide_false, Option.map_some, permD, setW, List.set_cons_zero, List.set_cons_succ, bindP, bindPs, v_rd, v_dat, v_non, v_bl, v_int, v_lst, v_tup, v_str, v_add, v_sub, v_mul, v_fdiv, v_mod, v_cat, v_app, v_neg, v_lt, v_le, v_gt, v_ge, v_eq, v_isN, v_notN, v_in, v_nin, v_inS, v_eqI, v_eqS, v_neI, v_neS, v_lenS, v_lenL, v_lenT, v_repr, v_intI, v_intB, v_abs, v_ty_int_non, v_ty_int_bl, v_ty_int_int, v_ty_int_str, v_ty_int_lst, v_ty_int_tup, v_ty_int_dct, v_ty_bool_non, v_ty_bool_bl, v_ty_bool_int, v_ty_bool_str, v_ty_bool_lst, v_ty_bool_tup, v_ty_bool_dct, v_ty_str_non, v_ty_str_bl, v_ty_str_int, v_ty_str_str, v_ty_str_lst, v_ty_str_tup, v_ty_str_dct, v_ty_list_non, v_ty_list_bl, v_ty_list_int, v_ty_list_str, v_ty_list_lst, v_ty_list_tup, v_ty_list_dct, v_ty_tuple_non, v_ty_tuple_bl, v_ty_tuple_int, v_ty_tuple_str, v_ty_tuple_lst, v_ty_tuple_tup, v_ty_tuple_dct, v_ty_dict_non, v_ty_dict_bl, v_ty_dict_int, v_ty_dict_str, v_ty_dict_lst, v_ty_dict_tup, v_ty_dict_dct, v_isN_non, v_isN_int, v_isN_bl, v_isN_str, v_sliS, v_sliL, v_sliT, v_optN, v_optI, v_meT, v_join, v_walL, v_walT, v_walS, v_rng1, v_rng2, v_enum, v_zip, v_fewF, v_any1, v_any2, Nat.zero_add, Nat.reduceAdd, Nat.reduceLT, Nat.reduceLeDiff, Nat.reduceSub, Nat.reduceEqDiff, le_lim, v_neL, eqI_nil]
      rfl
    have e10 : exB C s6__law_rank [some (.d (.lst (dRs rows))), some (.d (.int j)), some (.r lx), some (.d (.int ((BA.runR rows j).k : Nat))), some (.d (.int (BA.runR rows j).d)), some (.d (.lst (dI (i :: r)))), a6, a7, a8, a9, a10] S = _ := (ife_of (a := y0__law_rank) (b := .nil) e9).trans ((if_pos rfl).trans e8)
    refine ⟨_, _, by simp only [exB, evE, evL, tstE, M.bnd, opt_some, bnd_ret, opt_bnd, mapO, List.length_cons, List.length_nil, List.map_cons, List.map_nil, List.replicate, List.getElem?_cons_zero, List.getElem?_cons_succ, List.cons_append, List.nil_append, if_true, if_false, Bool.false_eq_true, Nat.sub_self, Bool.true_and, Bool.and_true, Bool.false_and, Bool.and_false, Bool.not_true, Bool.not_false, Bool.or_false, Bool.false_or, Bool.true_or, Bool.or_true, decide_true, decide_false, Option.map_some, permD, setW, List.set_cons_zero, List.set_cons_succ, bindP, bindPs, v_rd, v_dat, v_non, v_bl, v_int, v_lst, v_tup, v_str, v_add, v_sub, v_mul, v_fdiv, v_mod, v_cat, v_app, v_neg, v_lt, v_le, v_gt, v_ge, v_eq, v_isN, v_notN, v_in, v_nin, v_inS, v_eqI, v_eqS, v_neI, v_neS, v_lenS, v_lenL, v_lenT, v_repr, v_intI, v_intB, v_abs, v_ty_int_non, v_ty_int_bl, v_ty_int_int, v_ty_int_str, v_ty_int_lst, v_ty_int_tup, v_ty_int_dct, v_ty_bool_non, v_ty_bool_bl, v_ty_bool_int, v_ty_bool_str, v_ty_bool_lst, v_ty_bool_tup, v_ty_bool_dct, v_ty_str_non, v_ty_str_bl, v_ty_str_int, v_ty_str_str, v_ty_str_lst, v_ty_str_tup, v_ty_str_dct, v_ty_list_non, v_ty_list_bl, v_ty_list_int, v_ty_list_str, v_ty_list_lst, v_ty_list_tup, v_ty_list_dct, v_ty_tuple_non, v_ty_tuple_bl, v_ty_tuple_int, v_ty_tuple_str, v_ty_tuple_lst, v_ty_tuple_tup, v_ty_tuple_dct, v_ty_dict_non, v_ty_dict_bl, v_ty_dict_int, v_ty_dict_str, v_ty_dict_lst, v_ty_dict_tup, v_ty_dict_dct, v_isN_non, v_isN_int, v_isN_bl, v_isN_str, v_sliS, v_sliL, v_sliT, v_optN, v_optI, v_meT, v_join, v_walL, v_walT, v_walS, v_rng1, v_rng2, v_enum, v_zip, v_fewF, v_any1, v_any2, Nat.zero_add, Nat.reduceAdd, Nat.reduceLT, Nat.reduceLeDiff, Nat.reduceSub, Nat.reduceEqDiff, le_lim], sq1 e10, ⟨S3.length, some (.d (.int j)), some (.d (.lst (dI (i :: r)))), some (.d (dR (BA.row (BA.swp [] (BA.runR rows j).left (BA.runR rows j).k i) (BA.runR rows j).k))), a7, a8, a9, a10, ?_, ?_⟩⟩
    · rw [stp]
    · rw [stp]
      simp
theorem lr_s0 (hl : rows.length ≤ 1000) : exB C s0__law_rank [some (.d (.lst (dRs rows))), none, none, none, none, none, none, none, none, none, none] [] = .ret (.nx, [some (.d (.lst (dRs rows))), none, some (.r 0), some (.d (.int 0)), some (.d (.int 1)), none, none, none, none, none, none], [.lst (dRs rows)]) := by
  have q := ev_of (C := C) (m := true) (chk := false) (pt := .name 7) (k := .val) (src := .cons (.var 0) .nil) (cond := .dat (.bl true)) (elt := .bi .list (.cons (.var 7) (.nil))) (env := [some (.d (.lst (dRs rows))), none, none, none, none, none, none, none, none, none, none]) (S := []) (S1 := []) (ws := [.d (.lst (dRs rows))]) (ds := [.lst (dRs rows)]) rows dR (fun r => some (dR r)) (by simp only [exB, evE, evL, tstE, M.bnd, opt_some, bnd_ret, opt_bnd, mapO, List.length_cons, List.length_nil, List.map_cons, List.map_nil, List.replicate, List.getElem?_cons_zero, List.getElem?_cons_succ, List.cons_append, List.nil_append, if_true, if_false, Bool.false_eq_true, Nat.sub_self, Bool.true_and, Bool.and_true, Bool.false_and, Bool.and_false, Bool.not_true, Bool.not_false, Bool.or_false, Bool.false_or, Bool.true_or, Bool.or_true, decide_true, decide_false, Option.map_some, permD, setW, List.set_cons_zero, List.set_cons_succ, bindP, bindPs, v_rd, v_dat, v_non, v_bl, v_int, v_lst, v_tup, v_str, v_add, v_sub, v_mul, v_fdiv, v_mod, v_cat, v_app, v_neg, v_lt, v_le, v_gt, v_ge, v_eq, v_isN, v_notN, v_in, v_nin, v_inS, v_eqI, v_eqS, v_neI, v_neS, v_lenS, v_lenL, v_lenT, v_repr, v_intI, v_intB, v_abs, v_ty_int_non, v_ty_int_bl, v_ty_int_int, v_ty_int_str, v_ty_int_lst, v_ty_int_tup, v_ty_int_dct, v_ty_bool_non, v_ty_bool_bl, v_ty_bool_int, v_ty_bool_str, v_ty_bool_lst, v_ty_bool_tup, v_ty_bool_dct, v_ty_str_non, v_ty_str_bl, v_ty_str_int, v_ty_str_str, v_ty_str_lst, v_ty_str_tup, v_ty_str_dct, v_ty_list_non, v_ty_list_bl, v_ty_list_int, v_ty_list_str, v_ty_list_lst, v_ty_list_tup, v_ty_list_dct, v_ty_tuple_non, v_ty_tuple_bl, v_ty_tuple_int, v_ty_tuple_str, v_ty_tuple_lst, v_ty_tuple_tup, v_ty_tuple_dct, v_ty_dict_non, v_ty_dict_bl, v_ty_dict_int, v_ty_dict_str, v_ty_dict_lst, v_ty_dict_tup, v_ty_dict_dct, v_isN_non, v_isN_int, v_isN_bl, v_isN_str, v_sliS, v_sliL, v_sliT, v_optN, v_optI, v_meT, v_join, v_walL, v_walT, v_walS, v_rng1, v_rng2, v_enum, v_zip, v_fewF, v_any1, v_any2, Nat.zero_add, Nat.reduceAdd, Nat.reduceLT, Nat.reduceLeDiff, Nat.reduceSub, Nat.reduceEqDiff, le_lim]) rfl rfl rfl (by unfold lim; omega) fun p hp => by
        refine ⟨_, by simp only [exB, evE, evL, tstE, M.bnd, opt_some, bnd_ret, opt_bnd, mapO, List.length_cons, List.length_nil, List.map_cons, List.map_nil, List.replicate, List.getElem?_cons_zero, List.getElem?_cons_succ, List.cons_append, List.nil_append, if_true, if_false, Bool.false_eq_true, Nat.sub_self, Bool.true_and, Bool.and_true, Bool.false_and, Bool.and_false, Bool.not_true, Bool.not_false, Bool.or_false, Bool.false_or, Bool.true_or, Bool.or_true, decide_true, decide_false, Option.map_some, permD, setW, List.set_cons_zero, List.set_cons_succ, bindP, bindPs, v_rd, v_dat, v_non, v_bl, v_int, v_lst, v_tup, v_str, v_add, v_sub, v_mul, v_fdiv, v_mod, v_cat, v_app, v_neg, v_lt, v_le, v_gt, v_ge, v_eq, v_isN, v_notN, v_in, v_nin, v_inS, v_eqI, v_eqS, v_neI, v_neS, v_lenS, v_lenL, v_lenT, v_repr, v_intI, v_intB, v_abs, v_ty_int_non, v_ty_int_bl, v_ty_int_int, v_ty_int_str, v_ty_int_lst, v_ty_int_tup, v_ty_int_dct, v_ty_bool_non, v_ty_bool_bl, v_ty_bool_int, v_ty_bool_str, v_ty_bool_lst, v_ty_bool_tup, v_ty_bool_dct, v_ty_str_non, v_ty_str_bl, v_ty_str_int, v_ty_str_str, v_ty_str_lst, v_ty_str_tup, v_ty_str_dct, v_ty_list_non, v_ty_list_bl, v_ty_list_int, v_ty_list_str, v_ty_list_lst, v_ty_list_tup, v_ty_list_dct, v_ty_tuple_non, v_ty_tuple_bl, v_ty_tuple_int, v_ty_tuple_str, v_ty_tuple_lst, v_ty_tuple_tup, v_ty_tuple_dct, v_ty_dict_non, v_ty_dict_bl, v_ty_dict_int, v_ty_dict_str, v_ty_dict_lst, v_ty_dict_tup, v_ty_dict_dct, v_isN_non, v_isN_int, v_isN_bl, v_isN_str, v_sliS, v_sliL, v_sliT, v_optN, v_optI, v_meT, v_join, v_walL, v_walT, v_walS, v_rng1, v_rng2, v_enum, v_zip, v_fewF, v_any1, v_any2, Nat.zero_add, Nat.reduceAdd, Nat.reduceLT, Nat.reduceLeDiff, Nat.reduceSub, Nat.reduceEqDiff, le_lim]; rfl, el_yes ?_⟩
        have e : biD .list [dR p] = some (dR p) := rfl
        simp only [exB, evE, evL, tstE, M.bnd, opt_some, bnd_ret, opt_bnd, mapO, List.length_cons, List.length_nil, List.map_cons, List.map_nil, List.replicate, List.getElem?_cons_zero, List.getElem?_cons_succ, List.cons_append, List.nil_append, if_true, if_false, Bool.false_eq_true, Nat.sub_self, Bool.true_and, Bool.and_true, Bool.false_and, Bool.and_false, Bool.not_true, Bool.not_false, Bool.or_false, Bool.false_or, Bool.true_or, Bool.or_true, decide_true, decide_false, Option.map_some, permD, setW, List.set_cons_zero, List.set_cons_succ, bindP, bindPs, v_rd, v_dat, v_non, v_bl, v_int, v_lst, v_tup, v_str, v_add, v_sub, v_mul, v_fdiv, v_mod, v_cat, v_app, v_neg, v_lt, v_le, v_gt, v_ge, v_eq, v_isN, v_notN, v_in, v_nin, v_inS, v_eqI, v_eqS, v_neI, v_neS, v_lenS, v_lenL, v_lenT, v_repr, v_intI, v_intB, v_abs, v_ty_int_non, v_ty_int_bl, v_ty_int_int, v_ty_int_str, v_ty_int_lst, v_ty_int_tup, v_ty_int_dct, v_ty_bool_non, v_ty_bool_bl, v_ty_bool_int, v_ty_bool_str, v_ty_bool_lst, v_ty_bool_tup, v_ty_bool_dct, v_ty_str_non, v_ty_str_bl, v_ty_str_int, v_ty_str_str, v_ty_str_lst, v_ty_str_tup, v_ty_str_dct, v_ty_list_non, v_ty_list_bl, v_ty_list_int, v_ty_list_str, v_ty_list_lst, v_ty_list_tup, v_ty_list_dct, v_ty_tuple_non, v_ty_tuple_bl, v_ty_tuple_int, v_ty_tuple_str, v_ty_tuple_lst, v_ty_tuple_tup, v_ty_tuple_dct, v_ty_dict_non, v_ty_dict_bl, v_ty_dict_int, v_ty_dict_str, v_ty_dict_lst, v_ty_dict_tup, v_ty_dict_dct, v_isN_non, v_isN_int, v_isN_bl, v_isN_str, v_sliS, v_sliL, v_sliT, v_optN, v_optI, v_meT, v_join, v_walL, v_walT, v_walS, v_rng1, v_rng2, v_enum, v_zip, v_fewF, v_any1, v_any2, Nat.zero_add, Nat.reduceAdd, Nat.reduceLT, Nat.reduceLeDiff, Nat.reduceSub, Nat.reduceEqDiff, le_lim, e]
  simp only [s0__law_rank, exB, evL, k0__law_rank]
  rw [q, fm_some]
  simp only [exB, evE, evL, tstE, M.bnd, opt_some, bnd_ret, opt_bnd, mapO, List.length_cons, List.length_nil, List.map_cons, List.map_nil, List.replicate, List.getElem?_cons_zero, List.getElem?_cons_succ, List.cons_append, List.nil_append, if_true, if_false, Bool.false_eq_true, Nat.sub_self, Bool.true_and, Bool.and_true, Bool.false_and, Bool.and_false, Bool.not_true, Bool.not_false, Bool.or_false, Bool.false_or, Bool.true_or, Bool.or_true, decide_true, decide_false, Option.map_some, permD, setW, List.set_cons_zero, List.set_cons_succ, bindP, bindPs, v_rd, v_dat, v_non, v_bl, v_int, v_lst, v_tup, v_str, v_add, v_sub, v_mul, v_fdiv, v_mod, v_cat, v_app, v_neg, v_lt, v_le, v_gt, v_ge, v_eq, v_isN, v_notN, v_in, v_nin, v_inS, v_eqI, v_eqS, v_neI, v_neS, v_lenS, v_lenL, v_lenT, v_repr, v_intI, v_intB, v_abs, v_ty_int_non, v_ty_int_bl, v_ty_int_int, v_ty_int_str, v_ty_int_lst, v_ty_int_tup, v_ty_int_dct, v_ty_bool_non, v_ty_bool_bl, v_ty_bool_int, v_ty_bool_str, v_ty_bool_lst, v_ty_bool_tup, v_ty_bool_dct, v_ty_str_non, v_ty_str_bl, v_ty_str_int, v_ty_str_str, v_ty_str_lst, v_ty_str_tup, v_ty_str_dct, v_ty_list_non, v_ty_list_bl, v_ty_list_int, v_ty_list_str, v_ty_list_lst, v_ty_list_tup, v_ty_list_dct, v_ty_tuple_non, v_ty_tuple_bl, v_ty_tuple_int, v_ty_tuple_str, v_ty_tuple_lst, v_ty_tuple_tup, v_ty_tuple_dct, v_ty_dict_non, v_ty_dict_bl, v_ty_dict_int, v_ty_dict_str, v_ty_dict_lst, v_ty_dict_tup, v_ty_dict_dct, v_isN_non, v_isN_int, v_isN_bl, v_isN_str, v_sliS, v_sliL, v_sliT, v_optN, v_optI, v_meT, v_join, v_walL, v_walT, v_walS, v_rng1, v_rng2, v_enum, v_zip, v_fewF, v_any1, v_any2, Nat.zero_add, Nat.reduceAdd, Nat.reduceLT, Nat.reduceLeDiff, Nat.reduceSub, Nat.reduceEqDiff, le_lim, stoXs, stoX]
  rfl
theorem lr_s7 (g : GoodR b m rows) : ∃ env2 S2, exB C s7__law_rank [some (.d (.lst (dRs rows))), none, some (.r 0), some (.d (.int 0)), some (.d (.int 1)), none, none, none, none, none, none] [.lst (dRs rows)] = .ret (.nx, env2, S2) ∧ IR rows m env2 S2 := by
  have wide := g.wide
  by_cases h0 : rows = []
  · subst h0
    refine ⟨[some (.d (.lst (dRs []))), none, some (.r 0), some (.d (.int 0)), some (.d (.int 1)), none, none, none, none, none, none], [.lst (dRs [])], ?_, ⟨0, none, none, none, none, none, none, none, ?_, ?_⟩⟩
    · simp only [s7__law_rank, exB, cols_of (C := C) (hlen := g.len)]
      simp only [exB, evE, evL, tstE, M.bnd, opt_some, bnd_ret, opt_bnd, mapO, List.length_cons, List.length_nil, List.map_cons, List.map_nil, List.replicate, List.getElem?_cons_zero, List.getElem?_cons_succ, List.cons_append, List.nil_append, if_true, if_false, Bool.false_eq_true, Nat.sub_self, Bool.true_and, Bool.and_true, Bool.false_and, Bool.and_false, Bool.not_true, Bool.not_false, Bool.or_false, Bool.false_or, Bool.true_or, Bool.or_true, decide_true, decide_false, Option.map_some, permD, setW, List.set_cons_zero, List.set_cons_succ, bindP, bindPs, v_rd, v_dat, v_non, v_bl, v_int, v_lst, v_tup, v_str, v_add, v_sub, v_mul, v_fdiv, v_mod, v_cat, v_app, v_neg, v_lt, v_le, v_gt, v_ge, v_eq, v_isN, v_notN, v_in, v_nin, v_inS, v_eqI, v_eqS, v_neI, v_neS, v_lenS, v_lenL, v_lenT, v_repr, v_intI, v_intB, v_abs, v_ty_int_non, v_ty_int_bl, v_ty_int_int, v_ty_int_str, v_ty_int_lst, v_ty_int_tup, v_ty_int_dct, v_ty_bool_non, v_ty_bool_bl, v_ty_bool_int, v_ty_bool_str, v_ty_bool_lst, v_ty_bool_tup, v_ty_bool_dct, v_ty_str_non, v_ty_str_bl, v_ty_str_int, v_ty_str_str, v_ty_str_lst, v_ty_str_tup, v_ty_str_dct, v_ty_list_non, v_ty_list_bl, v_ty_list_int, v_ty_list_str, v_ty_list_lst, v_ty_list_tup, v_ty_list_dct, v_ty_tuple_non, v_ty_tuple_bl, v_ty_tuple_int, v_ty_tuple_str, v_ty_tuple_lst, v_ty_tuple_tup, v_ty_tuple_dct, v_ty_dict_non, v_ty_dict_bl, v_ty_dict_int, v_ty_dict_str, v_ty_dict_lst, v_ty_dict_tup, v_ty_dict_dct, v_isN_non, v_isN_int, v_isN_bl, v_isN_str, v_sliS, v_sliL, v_sliT, v_optN, v_optI, v_meT, v_join, v_walL, v_walT, v_walS, v_rng1, v_rng2, v_enum, v_zip, v_fewF, v_any1, v_any2, Nat.zero_add, Nat.reduceAdd, Nat.reduceLT, Nat.reduceLeDiff, Nat.reduceSub, Nat.reduceEqDiff, le_lim]
      rfl
    · rw [BA.runR_empty]; rfl
    · rw [BA.runR_empty]; rfl
  · have := ex_for (C := C) (chk := false) (pt := .name 1) (k := .range) (body := y1__law_rank) (env := [some (.d (.lst (dRs rows))), none, some (.r 0), some (.d (.int 0)), some (.d (.int 1)), none, none, none, none, none, none]) (S := [.lst (dRs rows)]) (I := fun j env S => IR rows j env S) (cols_of (hlen := g.len)) rfl (its := upD 0 m) (by
        rw [if_neg h0]
        show (if small (m : Int) then some (upD 0 (m : Int).toNat) else none) = _
        rw [if_pos (by unfold small; rw [Bool.and_eq_true, decide_eq_true_eq, decide_eq_true_eq]; omega)]
        rfl) rfl ⟨0, none, none, none, none, none, none, none, rfl, rfl⟩ fun i d hd env S hI => by
          have e : upD 0 m = (List.range' 0 m).map fun (i : Nat) => D.int (i : Int) := upD_map m 0
          rw [e] at hd
          obtain ⟨a, ha, rfl⟩ := getElem?_map_some hd
          have hi := (List.getElem?_eq_some_iff.mp ha).1
          have e2 : a = i := by
            have := (List.getElem?_eq_some_iff.mp ha).2
            rw [List.getElem_range'] at this
            omega
          subst e2
          exact lr_turn g (by simpa using hi) hI
    have e : (upD 0 m).length = m := by rw [show upD 0 m = (List.range' 0 m).map fun (i : Nat) => D.int (i : Int) from upD_map m 0]; simp
    rw [e] at this
    exact this
theorem r_lrank (g : GoodR b m rows) : dcall (run tbl.T (n + 1)) 8 [.lst (dRs rows)] = .ret (.int ((BA.runR rows m).k : Nat)) := by
  have few := g.few
  obtain ⟨env2, S2, e9, ⟨lx, a1, a5, a6, a7, a8, a9, a10, rfl, hS⟩⟩ := lr_s7 (C := run tbl.T n) g
  refine fn_ret T8 rfl (env := [some (.d (.lst (dRs rows))), a1, some (.r lx), some (.d (.int ((BA.runR rows m).k : Nat))), some (.d (.int (BA.runR rows m).d)), a5, a6, a7, a8, a9, a10]) (S := S2) ?_
  show exB _ b__law_rank [some (.d (.lst (dRs rows))), none, none, none, none, none, none, none, none, none, none] [] = _
  unfold b__law_rank
  rw [sq (lr_s0 (by omega)), sq e9]
  refine sqR ?_
  simp only [s8__law_rank, exB, evE, evL, tstE, M.bnd, opt_some, bnd_ret, opt_bnd, mapO, List.length_cons, List.length_nil, List.map_cons, List.map_nil, List.replicate, List.getElem?_cons_zero, List.getElem?_cons_succ, List.cons_append, List.nil_append, if_true, if_false, Bool.false_eq_true, Nat.sub_self, Bool.true_and, Bool.and_true, Bool.false_and, Bool.and_false, Bool.not_true, Bool.not_false, Bool.or_false, Bool.false_or, Bool.true_or, Bool.or_true, decide_true, decide_false, Option.map_some, permD, setW, List.set_cons_zero, List.set_cons_succ, bindP, bindPs, v_rd, v_dat, v_non, v_bl, v_int, v_lst, v_tup, v_str, v_add, v_sub, v_mul, v_fdiv, v_mod, v_cat, v_app, v_neg, v_lt, v_le, v_gt, v_ge, v_eq, v_isN, v_notN, v_in, v_nin, v_inS, v_eqI, v_eqS, v_neI, v_neS, v_lenS, v_lenL, v_lenT, v_repr, v_intI, v_intB, v_abs, v_ty_int_non, v_ty_int_bl, v_ty_int_int, v_ty_int_str, v_ty_int_lst, v_ty_int_tup, v_ty_int_dct, v_ty_bool_non, v_ty_bool_bl, v_ty_bool_int, v_ty_bool_str, v_ty_bool_lst, v_ty_bool_tup, v_ty_bool_dct, v_ty_str_non, v_ty_str_bl, v_ty_str_int, v_ty_str_str, v_ty_str_lst, v_ty_str_tup, v_ty_str_dct, v_ty_list_non, v_ty_list_bl, v_ty_list_int, v_ty_list_str, v_ty_list_lst, v_ty_list_tup, v_ty_list_dct, v_ty_tuple_non, v_ty_tuple_bl, v_ty_tuple_int, v_ty_tuple_str, v_ty_tuple_lst, v_ty_tuple_tup, v_ty_tuple_dct, v_ty_dict_non, v_ty_dict_bl, v_ty_dict_int, v_ty_dict_str, v_ty_dict_lst, v_ty_dict_tup, v_ty_dict_dct, v_isN_non, v_isN_int, v_isN_bl, v_isN_str, v_sliS, v_sliL, v_sliT, v_optN, v_optI, v_meT, v_join, v_walL, v_walT, v_walS, v_rng1, v_rng2, v_enum, v_zip, v_fewF, v_any1, v_any2, Nat.zero_add, Nat.reduceAdd, Nat.reduceLT, Nat.reduceLeDiff, Nat.reduceSub, Nat.reduceEqDiff, le_lim]
end
end RL.T
end

section
set_option Elab.async false
set_option linter.all false
set_option maxRecDepth 100000
set_option maxHeartbeats 400000
namespace RL.T
open PySem L2
theorem v_sumR (r : List Int) : biD .sum [dR r] = some (.int r.sum) := by
  show (match intsD (r.map .int) with
    | some ns => some (D.int ns.sum)
    | none => none) = _
  rw [intsD_map]
theorem ev_dot {C : Calls} {a b : List Int} {e2 e3 : Option W} {S : Sto} (k : Nat) (h0 : 0 < k) (h9 : k ≤ 9000) (ha : Sm k a) (hb : Sm k b) (hl : a.length ≤ 1000) :
    evE C (.comp false false (.cons (.name 2) (.cons (.name 3) (.nil))) .zip (.cons (.var 0) (.cons (.var 1) (.nil))) (.dat (.bl true)) (.bin .mul (.var 2) (.var 3))) [some (.d (dR a)), some (.d (dR b)), e2, e3] S = .ret (.d (dR (List.zipWith (· * ·) a b)), S) := by
  have q := ev_of (C := C) (m := false) (chk := false) (pt := .cons (.name 2) (.cons (.name 3) .nil)) (k := .zip) (src := .cons (.var 0) (.cons (.var 1) .nil)) (cond := .dat (.bl true)) (elt := .bin .mul (.var 2) (.var 3)) (env := [some (.d (dR a)), some (.d (dR b)), e2, e3]) (S := S) (S1 := S) (ws := [.d (dR a), .d (dR b)]) (ds := [dR a, dR b])
    (a.zip b) (fun p => .tup [.int p.1, .int p.2]) (fun p => some (D.int (p.1 * p.2))) (by simp only [exB, evE, evL, tstE, M.bnd, opt_some, bnd_ret, opt_bnd, mapO, List.length_cons, List.length_nil, List.map_cons, List.map_nil, List.replicate, List.getElem?_cons_zero, List.getElem?_cons_succ, List.cons_append, List.nil_append, if_true, if_false, Bool.false_eq_true, Nat.sub_self, Bool.true_and, Bool.and_true, Bool.false_and, Bool.and_false, Bool.not_true, Bool.not_false, Bool.or_false, Bool.false_or, Bool.true_or, Bool.or_true, decide_true, decide_false, Option.map_some, permD, setW, List.set_cons_zero, List.set_cons_succ, bindP, bindPs, v_rd, v_dat, v_non, v_bl, v_int, v_lst, v_tup, v_str, v_add, v_sub, v_mul, v_fdiv, v_mod, v_cat, v_app, v_neg, v_lt, v_le, v_gt, v_ge, v_eq, v_isN, v_notN, v_in, v_nin, v_inS, v_eqI, v_eqS, v_neI, v_neS, v_lenS, v_lenL, v_lenT, v_repr, v_intI, v_intB, v_abs, v_ty_int_non, v_ty_int_bl, v_ty_int_int, v_ty_int_str, v_ty_int_lst, v_ty_int_tup, v_ty_int_dct, v_ty_bool_non, v_ty_bool_bl, v_ty_bool_int, v_ty_bool_str, v_ty_bool_lst, v_ty_bool_tup, v_ty_bool_dct, v_ty_str_non, v_ty_str_bl, v_ty_str_int, v_ty_str_str, v_ty_str_lst, v_ty_str_tup, v_ty_str_dct, v_ty_list_non, v_ty_list_bl, v_ty_list_int, v_ty_list_str, v_ty_list_lst, v_ty_list_tup, v_ty_list_dct, v_ty_tuple_non, v_ty_tuple_bl, v_ty_tuple_int, v_ty_tuple_str, v_ty_tuple_lst, v_ty_tuple_tup, v_ty_tuple_dct, v_ty_dict_non, v_ty_dict_bl, v_ty_dict_int, v_ty_dict_str, v_ty_dict_lst, v_ty_dict_tup, v_ty_dict_dct, v_isN_non, v_isN_int, v_isN_bl, v_isN_str, v_sliS, v_sliL, v_sliT, v_optN, v_optI, v_meT, v_join, v_walL, v_walT, v_walS, v_rng1, v_rng2, v_enum, v_zip, v_fewF, v_any1, v_any2, Nat.zero_add, Nat.reduceAdd, Nat.reduceLT, Nat.reduceLeDiff, Nat.reduceSub, Nat.reduceEqDiff, le_lim]) rfl (by show some (zipD _ _) = _; rw [zipD_map]) rfl (by rw [List.length_zip]; unfold lim; omega) fun p hp => by
      refine ⟨_, by simp only [exB, evE, evL, tstE, M.bnd, opt_some, bnd_ret, opt_bnd, mapO, List.length_cons, List.length_nil, List.map_cons, List.map_nil, List.replicate, List.getElem?_cons_zero, List.getElem?_cons_succ, List.cons_append, List.nil_append, if_true, if_false, Bool.false_eq_true, Nat.sub_self, Bool.true_and, Bool.and_true, Bool.false_and, Bool.and_false, Bool.not_true, Bool.not_false, Bool.or_false, Bool.false_or, Bool.true_or, Bool.or_true, decide_true, decide_false, Option.map_some, permD, setW, List.set_cons_zero, List.set_cons_succ, bindP, bindPs, v_rd, v_dat, v_non, v_bl, v_int, v_lst, v_tup, v_str, v_add, v_sub, v_mul, v_fdiv, v_mod, v_cat, v_app, v_neg, v_lt, v_le, v_gt, v_ge, v_eq, v_isN, v_notN, v_in, v_nin, v_inS, v_eqI, v_eqS, v_neI, v_neS, v_lenS, v_lenL, v_lenT, v_repr, v_intI, v_intB, v_abs, v_ty_int_non, v_ty_int_bl, v_ty_int_int, v_ty_int_str, v_ty_int_lst, v_ty_int_tup, v_ty_int_dct, v_ty_bool_non, v_ty_bool_bl, v_ty_bool_int, v_ty_bool_str, v_ty_bool_lst, v_ty_bool_tup, v_ty_bool_dct, v_ty_str_non, v_ty_str_bl, v_ty_str_int, v_ty_str_str, v_ty_str_lst, v_ty_str_tup, v_ty_str_dct, v_ty_list_non, v_ty_list_bl, v_ty_list_int, v_ty_list_str, v_ty_list_lst, v_ty_list_tup, v_ty_list_dct, v_ty_tuple_non, v_ty_tuple_bl, v_ty_tuple_int, v_ty_tuple_str, v_ty_tuple_lst, v_ty_tuple_tup, v_ty_tuple_dct, v_ty_dict_non, v_ty_dict_bl, v_ty_dict_int, v_ty_dict_str, v_ty_dict_lst, v_ty_dict_tup, v_ty_dict_dct, v_isN_non, v_isN_int, v_isN_bl, v_isN_str, v_sliS, v_sliL, v_sliT, v_optN, v_optI, v_meT, v_join, v_walL, v_walT, v_walS, v_rng1, v_rng2, v_enum, v_zip, v_fewF, v_any1, v_any2, Nat.zero_add, Nat.reduceAdd, Nat.reduceLT, Nat.reduceLeDiff, Nat.reduceSub, Nat.reduceEqDiff, le_lim]; rfl, el_yes ?_⟩
      simp only [exB, evE, evL, tstE, M.bnd, opt_some, bnd_ret, opt_bnd, mapO, List.length_cons, List.length_nil, List.map_cons, List.map_nil, List.replicate, List.getElem?_cons_zero, List.getElem?_cons_succ, List.cons_append, List.nil_append, if_true, if_false, Bool.false_eq_true, Nat.sub_self, Bool.true_and, Bool.and_true, Bool.false_and, Bool.and_false, Bool.not_true, Bool.not_false, Bool.or_false, Bool.false_or, Bool.true_or, Bool.or_true, decide_true, decide_false, Option.map_some, permD, setW, List.set_cons_zero, List.set_cons_succ, bindP, bindPs, v_rd, v_dat, v_non, v_bl, v_int, v_lst, v_tup, v_str, v_add, v_sub, v_mul, v_fdiv, v_mod, v_cat, v_app, v_neg, v_lt, v_le, v_gt, v_ge, v_eq, v_isN, v_notN, v_in, v_nin, v_inS, v_eqI, v_eqS, v_neI, v_neS, v_lenS, v_lenL, v_lenT, v_repr, v_intI, v_intB, v_abs, v_ty_int_non, v_ty_int_bl, v_ty_int_int, v_ty_int_str, v_ty_int_lst, v_ty_int_tup, v_ty_int_dct, v_ty_bool_non, v_ty_bool_bl, v_ty_bool_int, v_ty_bool_str, v_ty_bool_lst, v_ty_bool_tup, v_ty_bool_dct, v_ty_str_non, v_ty_str_bl, v_ty_str_int, v_ty_str_str, v_ty_str_lst, v_ty_str_tup, v_ty_str_dct, v_ty_list_non, v_ty_list_bl, v_ty_list_int, v_ty_list_str, v_ty_list_lst, v_ty_list_tup, v_ty_list_dct, v_ty_tuple_non, v_ty_tuple_bl, v_ty_tuple_int, v_ty_tuple_str, v_ty_tuple_lst, v_ty_tuple_tup, v_ty_tuple_dct, v_ty_dict_non, v_ty_dict_bl, v_ty_dict_int, v_ty_dict_str, v_ty_dict_lst, v_ty_dict_tup, v_ty_dict_dct, v_isN_non, v_isN_int, v_isN_bl, v_isN_str, v_sliS, v_sliL, v_sliT, v_optN, v_optI, v_meT, v_join, v_walL, v_walT, v_walS, v_rng1, v_rng2, v_enum, v_zip, v_fewF, v_any1, v_any2, Nat.zero_add, Nat.reduceAdd, Nat.reduceLT, Nat.reduceLeDiff, Nat.reduceSub, Nat.reduceEqDiff, le_lim, mulok (ha p.1 (List.of_mem_zip hp).1) (hb p.2 (List.of_mem_zip hp).2) h0 h9]
  rw [q, fm_some]
  show M.ret (W.d (.lst ((a.zip b).map fun p => D.int (p.1 * p.2))), S) = _
  unfold dR
  rw [List.map_zipWith, zip_zipWith (fun p q => D.int (p * q))]
theorem r_product (n : Nat) {a b : List Int} (k : Nat) (h0 : 0 < k) (h9 : k ≤ 9000) (ha : Sm k a) (hb : Sm k b) (hl : a.length ≤ 1000) : dcall (run tbl.T (n + 1)) 6 [dR a, dR b] = .ret (.int (BA.dot a b)) := by
  refine fn_ret T6 rfl (env := [some (.d (dR a)), some (.d (dR b)), none, none]) (S := []) ?_
  show exB _ b_product [some (.d (dR a)), some (.d (dR b)), none, none] [] = _
  unfold b_product
  refine sqR ?_
  have e := ev_dot (C := run tbl.T n) (e2 := none) (e3 := none) (S := []) k h0 h9 ha hb hl
  simp only [s0_product, k0_product, exB, evE.eq_def (C := run tbl.T n) (.bi .sum _), evL] at e ⊢
  rw [e]
  simp only [exB, evE, evL, tstE, M.bnd, opt_some, bnd_ret, opt_bnd, mapO, List.length_cons, List.length_nil, List.map_cons, List.map_nil, List.replicate, List.getElem?_cons_zero, List.getElem?_cons_succ, List.cons_append, List.nil_append, if_true, if_false, Bool.false_eq_true, Nat.sub_self, Bool.true_and, Bool.and_true, Bool.false_and, Bool.and_false, Bool.not_true, Bool.not_false, Bool.or_false, Bool.false_or, Bool.true_or, Bool.or_true, decide_true, decide_false, Option.map_some, permD, setW, List.set_cons_zero, List.set_cons_succ, bindP, bindPs, v_rd, v_dat, v_non, v_bl, v_int, v_lst, v_tup, v_str, v_add, v_sub, v_mul, v_fdiv, v_mod, v_cat, v_app, v_neg, v_lt, v_le, v_gt, v_ge, v_eq, v_isN, v_notN, v_in, v_nin, v_inS, v_eqI, v_eqS, v_neI, v_neS, v_lenS, v_lenL, v_lenT, v_repr, v_intI, v_intB, v_abs, v_ty_int_non, v_ty_int_bl, v_ty_int_int, v_ty_int_str, v_ty_int_lst, v_ty_int_tup, v_ty_int_dct, v_ty_bool_non, v_ty_bool_bl, v_ty_bool_int, v_ty_bool_str, v_ty_bool_lst, v_ty_bool_tup, v_ty_bool_dct, v_ty_str_non, v_ty_str_bl, v_ty_str_int, v_ty_str_str, v_ty_str_lst, v_ty_str_tup, v_ty_str_dct, v_ty_list_non, v_ty_list_bl, v_ty_list_int, v_ty_list_str, v_ty_list_lst, v_ty_list_tup, v_ty_list_dct, v_ty_tuple_non, v_ty_tuple_bl, v_ty_tuple_int, v_ty_tuple_str, v_ty_tuple_lst, v_ty_tuple_tup, v_ty_tuple_dct, v_ty_dict_non, v_ty_dict_bl, v_ty_dict_int, v_ty_dict_str, v_ty_dict_lst, v_ty_dict_tup, v_ty_dict_dct, v_isN_non, v_isN_int, v_isN_bl, v_isN_str, v_sliS, v_sliL, v_sliT, v_optN, v_optI, v_meT, v_join, v_walL, v_walT, v_walS, v_rng1, v_rng2, v_enum, v_zip, v_fewF, v_any1, v_any2, Nat.zero_add, Nat.reduceAdd, Nat.reduceLT, Nat.reduceLeDiff, Nat.reduceSub, Nat.reduceEqDiff, le_lim, v_sumR]
  rfl
theorem r_dot (n : Nat) {a b : List Int} (k : Nat) (h0 : 0 < k) (h9 : k ≤ 9000) (ha : Sm k a) (hb : Sm k b) (hl : a.length ≤ 1000) : dcall (run tbl.T (n + 1)) 9 [dR a, dR b] = .ret (.int (BA.dot a b)) := by
  refine fn_ret T9 rfl (env := [some (.d (dR a)), some (.d (dR b)), none, none]) (S := []) ?_
  show exB _ b__law_dot [some (.d (dR a)), some (.d (dR b)), none, none] [] = _
  unfold b__law_dot
  refine sqR ?_
  have e : evE (run tbl.T n) k0__law_dot [some (.d (dR a)), some (.d (dR b)), none, none] [] = .ret (.d (dR (List.zipWith (· * ·) a b)), []) := ev_dot k h0 h9 ha hb hl
  simp only [s0__law_dot, exB, evE, evL, tstE, M.bnd, opt_some, bnd_ret, opt_bnd, mapO, List.length_cons, List.length_nil, List.map_cons, List.map_nil, List.replicate, List.getElem?_cons_zero, List.getElem?_cons_succ, List.cons_append, List.nil_append, if_true, if_false, Bool.false_eq_true, Nat.sub_self, Bool.true_and, Bool.and_true, Bool.false_and, Bool.and_false, Bool.not_true, Bool.not_false, Bool.or_false, Bool.false_or, Bool.true_or, Bool.or_true, decide_true, decide_false, Option.map_some, permD, setW, List.set_cons_zero, List.set_cons_succ, bindP, bindPs, v_rd, v_dat, v_non, v_bl, v_int, v_lst, v_tup, v_str, v_add, v_sub, v_mul, v_fdiv, v_mod, v_cat, v_app, v_neg, v_lt, v_le, v_gt, v_ge, v_eq, v_isN, v_notN, v_in, v_nin, v_inS, v_eqI, v_eqS, v_neI, v_neS, v_lenS, v_lenL, v_lenT, v_repr, v_intI, v_intB, v_abs, v_ty_int_non, v_ty_int_bl, v_ty_int_int, v_ty_int_str, v_ty_int_lst, v_ty_int_tup, v_ty_int_dct, v_ty_bool_non, v_ty_bool_bl, v_ty_bool_int, v_ty_bool_str, v_ty_bool_lst, v_ty_bool_tup, v_ty_bool_dct, v_ty_str_non, v_ty_str_bl, v_ty_str_int, v_ty_str_str, v_ty_str_lst, v_ty_str_tup, v_ty_str_dct, v_ty_list_non, v_ty_list_bl, v_ty_list_int, v_ty_list_str, v_ty_list_lst, v_ty_list_tup, v_ty_list_dct, v_ty_tuple_non, v_ty_tuple_bl, v_ty_tuple_int, v_ty_tuple_str, v_ty_tuple_lst, v_ty_tuple_tup, v_ty_tuple_dct, v_ty_dict_non, v_ty_dict_bl, v_ty_dict_int, v_ty_dict_str, v_ty_dict_lst, v_ty_dict_tup, v_ty_dict_dct, v_isN_non, v_isN_int, v_isN_bl, v_isN_str, v_sliS, v_sliL, v_sliT, v_optN, v_optI, v_meT, v_join, v_walL, v_walT, v_walS, v_rng1, v_rng2, v_enum, v_zip, v_fewF, v_any1, v_any2, Nat.zero_add, Nat.reduceAdd, Nat.reduceLT, Nat.reduceLeDiff, Nat.reduceSub, Nat.reduceEqDiff, le_lim, e, v_sumR]
  rfl
/-! the law's own divisor -/
theorem ld_s3 {C : Calls} {S : Sto} {l f n : Option W} (a b : Nat) (hb : b < 2 ^ 8000) : exB C s3__law_divisor [l, f, n, some (.d (.int a)), some (.d (.int b))] S = .ret (.nx, [l, f, n, some (.d (.int (Nat.gcd a b))), some (.d (.int 0))], S) := by
  unfold s3__law_divisor
  simp only [exB]
  refine while_gcd (fun a b => [l, f, n, some (.d (.int a)), some (.d (.int b))]) (fun a b => ?_) (fun a b h => ?_) 8000 a b 16777216 hb (by decide)
  · simp only [exB, evE, evL, tstE, M.bnd, opt_some, bnd_ret, opt_bnd, mapO, List.length_cons, List.length_nil, List.map_cons, List.map_nil, List.replicate, List.getElem?_cons_zero, List.getElem?_cons_succ, List.cons_append, List.nil_append, if_true, if_false, Bool.false_eq_true, Nat.sub_self, Bool.true_and, Bool.and_true, Bool.false_and, Bool.and_false, Bool.not_true, Bool.not_false, Bool.or_false, Bool.false_or, Bool.true_or, Bool.or_true, decide_true, decide_false, Option.map_some, permD, setW, List.set_cons_zero, List.set_cons_succ, bindP, bindPs, v_rd, v_dat, v_non, v_bl, v_int, v_lst, v_tup, v_str, v_add, v_sub, v_mul, v_fdiv, v_mod, v_cat, v_app, v_neg, v_lt, v_le, v_gt, v_ge, v_eq, v_isN, v_notN, v_in, v_nin, v_inS, v_eqI, v_eqS, v_neI, v_neS, v_lenS, v_lenL, v_lenT, v_repr, v_intI, v_intB, v_abs, v_ty_int_non, v_ty_int_bl, v_ty_int_int, v_ty_int_str, v_ty_int_lst, v_ty_int_tup, v_ty_int_dct, v_ty_bool_non, v_ty_bool_bl, v_ty_bool_int, v_ty_bool_str, v_ty_bool_lst, v_ty_bool_tup, v_ty_bool_dct, v_ty_str_non, v_ty_str_bl, v_ty_str_int, v_ty_str_str, v_ty_str_lst, v_ty_str_tup, v_ty_str_dct, v_ty_list_non, v_ty_list_bl, v_ty_list_int, v_ty_list_str, v_ty_list_lst, v_ty_list_tup, v_ty_list_dct, v_ty_tuple_non, v_ty_tuple_bl, v_ty_tuple_int, v_ty_tuple_str, v_ty_tuple_lst, v_ty_tuple_tup, v_ty_tuple_dct, v_ty_dict_non, v_ty_dict_bl, v_ty_dict_int, v_ty_dict_str, v_ty_dict_lst, v_ty_dict_tup, v_ty_dict_dct, v_isN_non, v_isN_int, v_isN_bl, v_isN_str, v_sliS, v_sliL, v_sliT, v_optN, v_optI, v_meT, v_join, v_walL, v_walT, v_walS, v_rng1, v_rng2, v_enum, v_zip, v_fewF, v_any1, v_any2, Nat.zero_add, Nat.reduceAdd, Nat.reduceLT, Nat.reduceLeDiff, Nat.reduceSub, Nat.reduceEqDiff, le_lim]
    by_cases h : b = 0
    · subst h
      rfl
    · have e : decide ((0 : Int) < (b : Int)) = true := by simpa using (by omega : 0 < b)
      rw [e]
      simp [h]
  · have h1 : (0 : Int) < b := by omega
    have e : ((a : Int) % (b : Int)) = ((a % b : Nat) : Int) := rfl
    simp only [y0__law_divisor, s2__law_divisor, x1__law_divisor, exB, evE, evL, tstE, M.bnd, opt_some, bnd_ret, opt_bnd, mapO, List.length_cons, List.length_nil, List.map_cons, List.map_nil, List.replicate, List.getElem?_cons_zero, List.getElem?_cons_succ, List.cons_append, List.nil_append, if_true, if_false, Bool.false_eq_true, Nat.sub_self, Bool.true_and, Bool.and_true, Bool.false_and, Bool.and_false, Bool.not_true, Bool.not_false, Bool.or_false, Bool.false_or, Bool.true_or, Bool.or_true, decide_true, decide_false, Option.map_some, permD, setW, List.set_cons_zero, List.set_cons_succ, bindP, bindPs, v_rd, v_dat, v_non, v_bl, v_int, v_lst, v_tup, v_str, v_add, v_sub, v_mul, v_fdiv, v_mod, v_cat, v_app, v_neg, v_lt, v_le, v_gt, v_ge, v_eq, v_isN, v_notN, v_in, v_nin, v_inS, v_eqI, v_eqS, v_neI, v_neS, v_lenS, v_lenL, v_lenT, v_repr, v_intI, v_intB, v_abs, v_ty_int_non, v_ty_int_bl, v_ty_int_int, v_ty_int_str, v_ty_int_lst, v_ty_int_tup, v_ty_int_dct, v_ty_bool_non, v_ty_bool_bl, v_ty_bool_int, v_ty_bool_str, v_ty_bool_lst, v_ty_bool_tup, v_ty_bool_dct, v_ty_str_non, v_ty_str_bl, v_ty_str_int, v_ty_str_str, v_ty_str_lst, v_ty_str_tup, v_ty_str_dct, v_ty_list_non, v_ty_list_bl, v_ty_list_int, v_ty_list_str, v_ty_list_lst, v_ty_list_tup, v_ty_list_dct, v_ty_tuple_non, v_ty_tuple_bl, v_ty_tuple_int, v_ty_tuple_str, v_ty_tuple_lst, v_ty_tuple_tup, v_ty_tuple_dct, v_ty_dict_non, v_ty_dict_bl, v_ty_dict_int, v_ty_dict_str, v_ty_dict_lst, v_ty_dict_tup, v_ty_dict_dct, v_isN_non, v_isN_int, v_isN_bl, v_isN_str, v_sliS, v_sliL, v_sliT, v_optN, v_optI, v_meT, v_join, v_walL, v_walT, v_walS, v_rng1, v_rng2, v_enum, v_zip, v_fewF, v_any1, v_any2, Nat.zero_add, Nat.reduceAdd, Nat.reduceLT, Nat.reduceLeDiff, Nat.reduceSub, Nat.reduceEqDiff, le_lim, h1, e]
theorem ld_s5 {C : Calls} {r : List Int} (h : Sm 8000 r) : ∃ a2 a3 a4, exB C s5__law_divisor [some (.d (dR r)), some (.d (.int 0)), none, none, none] [] = .ret (.nx, [some (.d (dR r)), some (.d (.int (BA.gcdL r))), a2, a3, a4], []) := by
  unfold s5__law_divisor
  obtain ⟨env2, S2, e, rfl, a2, a3, a4, rfl⟩ := ex_for (C := C) (chk := false) (pt := .name 2) (k := .val) (src := .cons (.var 0) .nil) (body := y1__law_divisor)
    (env := [some (.d (dR r)), some (.d (.int 0)), none, none, none]) (S := []) (I := fun k env S => S = [] ∧ ∃ a2 a3 a4, env = [some (.d (dR r)), some (.d (.int (BA.gcdF 0 (r.take k)))), a2, a3, a4])
    (ws := [.d (dR r)]) (S1 := []) (ds := [dR r]) (its := r.map .int) (by simp only [exB, evE, evL, tstE, M.bnd, opt_some, bnd_ret, opt_bnd, mapO, List.length_cons, List.length_nil, List.map_cons, List.map_nil, List.replicate, List.getElem?_cons_zero, List.getElem?_cons_succ, List.cons_append, List.nil_append, if_true, if_false, Bool.false_eq_true, Nat.sub_self, Bool.true_and, Bool.and_true, Bool.false_and, Bool.and_false, Bool.not_true, Bool.not_false, Bool.or_false, Bool.false_or, Bool.true_or, Bool.or_true, decide_true, decide_false, Option.map_some, permD, setW, List.set_cons_zero, List.set_cons_succ, bindP, bindPs, v_rd, v_dat, v_non, v_bl, v_int, v_lst, v_tup, v_str, v_add, v_sub, v_mul, v_fdiv, v_mod, v_cat, v_app, v_neg, v_lt, v_le, v_gt, v_ge, v_eq, v_isN, v_notN, v_in, v_nin, v_inS, v_eqI, v_eqS, v_neI, v_neS, v_lenS, v_lenL, v_lenT, v_repr, v_intI, v_intB, v_abs, v_ty_int_non, v_ty_int_bl, v_ty_int_int, v_ty_int_str, v_ty_int_lst, v_ty_int_tup, v_ty_int_dct, v_ty_bool_non, v_ty_bool_bl, v_ty_bool_int, v_ty_bool_str, v_ty_bool_lst, v_ty_bool_tup, v_ty_bool_dct, v_ty_str_non, v_ty_str_bl, v_ty_str_int, v_ty_str_str, v_ty_str_lst, v_ty_str_tup, v_ty_str_dct, v_ty_list_non, v_ty_list_bl, v_ty_list_int, v_ty_list_str, v_ty_list_lst, v_ty_list_tup, v_ty_list_dct, v_ty_tuple_non, v_ty_tuple_bl, v_ty_tuple_int, v_ty_tuple_str, v_ty_tuple_lst, v_ty_tuple_tup, v_ty_tuple_dct, v_ty_dict_non, v_ty_dict_bl, v_ty_dict_int, v_ty_dict_str, v_ty_dict_lst, v_ty_dict_tup, v_ty_dict_dct, v_isN_non, v_isN_int, v_isN_bl, v_isN_str, v_sliS, v_sliL, v_sliT, v_optN, v_optI, v_meT, v_join, v_walL, v_walT, v_walS, v_rng1, v_rng2, v_enum, v_zip, v_fewF, v_any1, v_any2, Nat.zero_add, Nat.reduceAdd, Nat.reduceLT, Nat.reduceLeDiff, Nat.reduceSub, Nat.reduceEqDiff, le_lim]) rfl rfl rfl ⟨rfl, none, none, none, rfl⟩ (fun i d hd env S hI => by
      obtain ⟨hS, a2, a3, a4, he⟩ := hI
      subst hS he
      obtain ⟨p, hp, rfl⟩ := getElem?_map_some hd
      have hg : BA.gcdF 0 (r.take i) < 2 ^ 8000 := gcdF_sm (Nat.two_pow_pos _) fun q hq => h q (List.mem_of_mem_take hq)
      refine ⟨[some (.d (dR r)), some (.d (.int (BA.gcdF 0 (r.take i)))), some (.d (.int p)), a3, a4], [some (.d (dR r)), some (.d (.int (BA.gcdF 0 (r.take (i + 1))))), some (.d (.int p)), some (.d (.int (BA.gcdF 0 (r.take (i + 1))))), some (.d (.int 0))], [], by simp only [exB, evE, evL, tstE, M.bnd, opt_some, bnd_ret, opt_bnd, mapO, List.length_cons, List.length_nil, List.map_cons, List.map_nil, List.replicate, List.getElem?_cons_zero, List.getElem?_cons_succ, List.cons_append, List.nil_append, if_true, if_false, Bool.false_eq_true, Nat.sub_self, Bool.true_and, Bool.and_true, Bool.false_and, Bool.and_false, Bool.not_true, Bool.not_false, Bool.or_false, Bool.false_or, Bool.true_or, Bool.or_true, decide_true, decide_false, Option.map_some, permD, setW, List.set_cons_zero, List.set_cons_succ, bindP, bindPs, v_rd, v_dat, v_non, v_bl, v_int, v_lst, v_tup, v_str, v_add, v_sub, v_mul, v_fdiv, v_mod, v_cat, v_app, v_neg, v_lt, v_le, v_gt, v_ge, v_eq, v_isN, v_notN, v_in, v_nin, v_inS, v_eqI, v_eqS, v_neI, v_neS, v_lenS, v_lenL, v_lenT, v_repr, v_intI, v_intB, v_abs, v_ty_int_non, v_ty_int_bl, v_ty_int_int, v_ty_int_str, v_ty_int_lst, v_ty_int_tup, v_ty_int_dct, v_ty_bool_non, v_ty_bool_bl, v_ty_bool_int, v_ty_bool_str, v_ty_bool_lst, v_ty_bool_tup, v_ty_bool_dct, v_ty_str_non, v_ty_str_bl, v_ty_str_int, v_ty_str_str, v_ty_str_lst, v_ty_str_tup, v_ty_str_dct, v_ty_list_non, v_ty_list_bl, v_ty_list_int, v_ty_list_str, v_ty_list_lst, v_ty_list_tup, v_ty_list_dct, v_ty_tuple_non, v_ty_tuple_bl, v_ty_tuple_int, v_ty_tuple_str, v_ty_tuple_lst, v_ty_tuple_tup, v_ty_tuple_dct, v_ty_dict_non, v_ty_dict_bl, v_ty_dict_int, v_ty_dict_str, v_ty_dict_lst, v_ty_dict_tup, v_ty_dict_dct, v_isN_non, v_isN_int, v_isN_bl, v_isN_str, v_sliS, v_sliL, v_sliT, v_optN, v_optI, v_meT, v_join, v_walL, v_walT, v_walS, v_rng1, v_rng2, v_enum, v_zip, v_fewF, v_any1, v_any2, Nat.zero_add, Nat.reduceAdd, Nat.reduceLT, Nat.reduceLeDiff, Nat.reduceSub, Nat.reduceEqDiff, le_lim], ?_, rfl, _, _, _, rfl⟩
      unfold y1__law_divisor
      rw [sq (s := s1__law_divisor) (env' := [some (.d (dR r)), some (.d (.int (BA.gcdF 0 (r.take i)))), some (.d (.int p)), some (.d (.int p.natAbs)), some (.d (.int (BA.gcdF 0 (r.take i))))]) (S' := []) (by simp only [s1__law_divisor, x0__law_divisor, exB, evE, evL, tstE, M.bnd, opt_some, bnd_ret, opt_bnd, mapO, List.length_cons, List.length_nil, List.map_cons, List.map_nil, List.replicate, List.getElem?_cons_zero, List.getElem?_cons_succ, List.cons_append, List.nil_append, if_true, if_false, Bool.false_eq_true, Nat.sub_self, Bool.true_and, Bool.and_true, Bool.false_and, Bool.and_false, Bool.not_true, Bool.not_false, Bool.or_false, Bool.false_or, Bool.true_or, Bool.or_true, decide_true, decide_false, Option.map_some, permD, setW, List.set_cons_zero, List.set_cons_succ, bindP, bindPs, v_rd, v_dat, v_non, v_bl, v_int, v_lst, v_tup, v_str, v_add, v_sub, v_mul, v_fdiv, v_mod, v_cat, v_app, v_neg, v_lt, v_le, v_gt, v_ge, v_eq, v_isN, v_notN, v_in, v_nin, v_inS, v_eqI, v_eqS, v_neI, v_neS, v_lenS, v_lenL, v_lenT, v_repr, v_intI, v_intB, v_abs, v_ty_int_non, v_ty_int_bl, v_ty_int_int, v_ty_int_str, v_ty_int_lst, v_ty_int_tup, v_ty_int_dct, v_ty_bool_non, v_ty_bool_bl, v_ty_bool_int, v_ty_bool_str, v_ty_bool_lst, v_ty_bool_tup, v_ty_bool_dct, v_ty_str_non, v_ty_str_bl, v_ty_str_int, v_ty_str_str, v_ty_str_lst, v_ty_str_tup, v_ty_str_dct, v_ty_list_non, v_ty_list_bl, v_ty_list_int, v_ty_list_str, v_ty_list_lst, v_ty_list_tup, v_ty_list_dct, v_ty_tuple_non, v_ty_tuple_bl, v_ty_tuple_int, v_ty_tuple_str, v_ty_tuple_lst, v_ty_tuple_tup, v_ty_tuple_dct, v_ty_dict_non, v_ty_dict_bl, v_ty_dict_int, v_ty_dict_str, v_ty_dict_lst, v_ty_dict_tup, v_ty_dict_dct, v_isN_non, v_isN_int, v_isN_bl, v_isN_str, v_sliS, v_sliL, v_sliT, v_optN, v_optI, v_meT, v_join, v_walL, v_walT, v_walS, v_rng1, v_rng2, v_enum, v_zip, v_fewF, v_any1, v_any2, Nat.zero_add, Nat.reduceAdd, Nat.reduceLT, Nat.reduceLeDiff, Nat.reduceSub, Nat.reduceEqDiff, le_lim])]
      rw [sq (ld_s3 _ _ hg)]
      refine sq1 ?_
      simp only [s4__law_divisor, exB, evE, evL, tstE, M.bnd, opt_some, bnd_ret, opt_bnd, mapO, List.length_cons, List.length_nil, List.map_cons, List.map_nil, List.replicate, List.getElem?_cons_zero, List.getElem?_cons_succ, List.cons_append, List.nil_append, if_true, if_false, Bool.false_eq_true, Nat.sub_self, Bool.true_and, Bool.and_true, Bool.false_and, Bool.and_false, Bool.not_true, Bool.not_false, Bool.or_false, Bool.false_or, Bool.true_or, Bool.or_true, decide_true, decide_false, Option.map_some, permD, setW, List.set_cons_zero, List.set_cons_succ, bindP, bindPs, v_rd, v_dat, v_non, v_bl, v_int, v_lst, v_tup, v_str, v_add, v_sub, v_mul, v_fdiv, v_mod, v_cat, v_app, v_neg, v_lt, v_le, v_gt, v_ge, v_eq, v_isN, v_notN, v_in, v_nin, v_inS, v_eqI, v_eqS, v_neI, v_neS, v_lenS, v_lenL, v_lenT, v_repr, v_intI, v_intB, v_abs, v_ty_int_non, v_ty_int_bl, v_ty_int_int, v_ty_int_str, v_ty_int_lst, v_ty_int_tup, v_ty_int_dct, v_ty_bool_non, v_ty_bool_bl, v_ty_bool_int, v_ty_bool_str, v_ty_bool_lst, v_ty_bool_tup, v_ty_bool_dct, v_ty_str_non, v_ty_str_bl, v_ty_str_int, v_ty_str_str, v_ty_str_lst, v_ty_str_tup, v_ty_str_dct, v_ty_list_non, v_ty_list_bl, v_ty_list_int, v_ty_list_str, v_ty_list_lst, v_ty_list_tup, v_ty_list_dct, v_ty_tuple_non, v_ty_tuple_bl, v_ty_tuple_int, v_ty_tuple_str, v_ty_tuple_lst, v_ty_tuple_tup, v_ty_tuple_dct, v_ty_dict_non, v_ty_dict_bl, v_ty_dict_int, v_ty_dict_str, v_ty_dict_lst, v_ty_dict_tup, v_ty_dict_dct, v_isN_non, v_isN_int, v_isN_bl, v_isN_str, v_sliS, v_sliL, v_sliT, v_optN, v_optI, v_meT, v_join, v_walL, v_walT, v_walS, v_rng1, v_rng2, v_enum, v_zip, v_fewF, v_any1, v_any2, Nat.zero_add, Nat.reduceAdd, Nat.reduceLT, Nat.reduceLeDiff, Nat.reduceSub, Nat.reduceEqDiff, le_lim, gcdF_take hp, Nat.gcd_comm])
  rw [List.length_map, List.take_length] at e
  exact ⟨a2, a3, a4, e⟩
theorem r_ldiv (n : Nat) {r : List Int} (h : Sm 8000 r) : dcall (run tbl.T (n + 1)) 11 [dR r] = .ret (.int (BA.gcdL r)) := by
  obtain ⟨a2, a3, a4, e⟩ := ld_s5 (C := run tbl.T n) h
  refine fn_ret T11 rfl (env := [some (.d (dR r)), some (.d (.int (BA.gcdL r))), a2, a3, a4]) (S := []) ?_
  show exB _ b__law_divisor [some (.d (dR r)), none, none, none, none] [] = _
  unfold b__law_divisor
  rw [sq (s := s0__law_divisor) (env' := [some (.d (dR r)), some (.d (.int 0)), none, none, none]) (S' := []) (by simp only [s0__law_divisor, exB, evE, evL, tstE, M.bnd, opt_some, bnd_ret, opt_bnd, mapO, List.length_cons, List.length_nil, List.map_cons, List.map_nil, List.replicate, List.getElem?_cons_zero, List.getElem?_cons_succ, List.cons_append, List.nil_append, if_true, if_false, Bool.false_eq_true, Nat.sub_self, Bool.true_and, Bool.and_true, Bool.false_and, Bool.and_false, Bool.not_true, Bool.not_false, Bool.or_false, Bool.false_or, Bool.true_or, Bool.or_true, decide_true, decide_false, Option.map_some, permD, setW, List.set_cons_zero, List.set_cons_succ, bindP, bindPs, v_rd, v_dat, v_non, v_bl, v_int, v_lst, v_tup, v_str, v_add, v_sub, v_mul, v_fdiv, v_mod, v_cat, v_app, v_neg, v_lt, v_le, v_gt, v_ge, v_eq, v_isN, v_notN, v_in, v_nin, v_inS, v_eqI, v_eqS, v_neI, v_neS, v_lenS, v_lenL, v_lenT, v_repr, v_intI, v_intB, v_abs, v_ty_int_non, v_ty_int_bl, v_ty_int_int, v_ty_int_str, v_ty_int_lst, v_ty_int_tup, v_ty_int_dct, v_ty_bool_non, v_ty_bool_bl, v_ty_bool_int, v_ty_bool_str, v_ty_bool_lst, v_ty_bool_tup, v_ty_bool_dct, v_ty_str_non, v_ty_str_bl, v_ty_str_int, v_ty_str_str, v_ty_str_lst, v_ty_str_tup, v_ty_str_dct, v_ty_list_non, v_ty_list_bl, v_ty_list_int, v_ty_list_str, v_ty_list_lst, v_ty_list_tup, v_ty_list_dct, v_ty_tuple_non, v_ty_tuple_bl, v_ty_tuple_int, v_ty_tuple_str, v_ty_tuple_lst, v_ty_tuple_tup, v_ty_tuple_dct, v_ty_dict_non, v_ty_dict_bl, v_ty_dict_int, v_ty_dict_str, v_ty_dict_lst, v_ty_dict_tup, v_ty_dict_dct, v_isN_non, v_isN_int, v_isN_bl, v_isN_str, v_sliS, v_sliL, v_sliT, v_optN, v_optI, v_meT, v_join, v_walL, v_walT, v_walS, v_rng1, v_rng2, v_enum, v_zip, v_fewF, v_any1, v_any2, Nat.zero_add, Nat.reduceAdd, Nat.reduceLT, Nat.reduceLeDiff, Nat.reduceSub, Nat.reduceEqDiff, le_lim]), sq e]
  refine sqR ?_
  simp only [s6__law_divisor, exB, evE, evL, tstE, M.bnd, opt_some, bnd_ret, opt_bnd, mapO, List.length_cons, List.length_nil, List.map_cons, List.map_nil, List.replicate, List.getElem?_cons_zero, List.getElem?_cons_succ, List.cons_append, List.nil_append, if_true, if_false, Bool.false_eq_true, Nat.sub_self, Bool.true_and, Bool.and_true, Bool.false_and, Bool.and_false, Bool.not_true, Bool.not_false, Bool.or_false, Bool.false_or, Bool.true_or, Bool.or_true, decide_true, decide_false, Option.map_some, permD, setW, List.set_cons_zero, List.set_cons_succ, bindP, bindPs, v_rd, v_dat, v_non, v_bl, v_int, v_lst, v_tup, v_str, v_add, v_sub, v_mul, v_fdiv, v_mod, v_cat, v_app, v_neg, v_lt, v_le, v_gt, v_ge, v_eq, v_isN, v_notN, v_in, v_nin, v_inS, v_eqI, v_eqS, v_neI, v_neS, v_lenS, v_lenL, v_lenT, v_repr, v_intI, v_intB, v_abs, v_ty_int_non, v_ty_int_bl, v_ty_int_int, v_ty_int_str, v_ty_int_lst, v_ty_int_tup, v_ty_int_dct, v_ty_bool_non, v_ty_bool_bl, v_ty_bool_int, v_ty_bool_str, v_ty_bool_lst, v_ty_bool_tup, v_ty_bool_dct, v_ty_str_non, v_ty_str_bl, v_ty_str_int, v_ty_str_str, v_ty_str_lst, v_ty_str_tup, v_ty_str_dct, v_ty_list_non, v_ty_list_bl, v_ty_list_int, v_ty_list_str, v_ty_list_lst, v_ty_list_tup, v_ty_list_dct, v_ty_tuple_non, v_ty_tuple_bl, v_ty_tuple_int, v_ty_tuple_str, v_ty_tuple_lst, v_ty_tuple_tup, v_ty_tuple_dct, v_ty_dict_non, v_ty_dict_bl, v_ty_dict_int, v_ty_dict_str, v_ty_dict_lst, v_ty_dict_tup, v_ty_dict_dct, v_isN_non, v_isN_int, v_isN_bl, v_isN_str, v_sliS, v_sliL, v_sliT, v_optN, v_optI, v_meT, v_join, v_walL, v_walT, v_walS, v_rng1, v_rng2, v_enum, v_zip, v_fewF, v_any1, v_any2, Nat.zero_add, Nat.reduceAdd, Nat.reduceLT, Nat.reduceLeDiff, Nat.reduceSub, Nat.reduceEqDiff, le_lim]
/-! the rows that all products are 0 with -/
theorem inD_dI (x : Nat) (l : List Nat) : inD (.int (x : Int)) (.lst (dI l)) = some (l.contains x) := by
  have e1 : (dI l).all flatD = true := by
    rw [List.all_eq_true]
    intro d hd
    obtain ⟨i, _, rfl⟩ := List.mem_map.mp hd
    rfl
  have e2 : (dI l).any (fun y => eqF y (.int (x : Int))) = l.contains x := by
    rw [Bool.eq_iff_iff, List.any_eq_true, List.contains_iff_mem]
    constructor
    · rintro ⟨d, hd, he⟩
      obtain ⟨i, hi, rfl⟩ := List.mem_map.mp hd
      have he : ((i : Int) == (x : Int)) = true := he
      have : i = x := by
        have := eq_of_beq he
        omega
      rw [← this]; exact hi
    · intro h
      exact ⟨.int (x : Int), List.mem_map.mpr ⟨x, h, rfl⟩, by show ((x : Int) == (x : Int)) = true; simp⟩
  show (if flatD (.int (x : Int)) && (dI l).all flatD then some ((dI l).any fun y => eqF y (.int (x : Int))) else none) = _
  rw [e1, e2]
  rfl
section
variable {C : Calls} {n many f t : Nat} {rows U : BA.Rows} {lds : List Nat} {S : Sto} {e0 a2 a3 a7 a8 a9 a10 : Option W} {dv : Int} {tl : List Int}
theorem n_frees (hm : many ≤ 1000) : evE C k0_noughts [e0, some (.d (.int many)), a2, a3, a7, some (.d (.lst (dI lds))), a8, a9, a10, e1, e2] S = .ret (.d (.lst (dI (BA.frees many lds))), S) := by
  have q := ev_of (C := C) (m := false) (chk := false) (pt := .name 8) (k := .range) (src := .cons (.var 1) .nil) (cond := .cmp .notIn (.var 8) (.var 5)) (elt := .var 8) (env := [e0, some (.d (.int many)), a2, a3, a7, some (.d (.lst (dI lds))), a8, a9, a10, e1, e2]) (S := S) (S1 := S) (ws := [.d (.int many)]) (ds := [.int many])
    (List.range' 0 many) (fun (i : Nat) => D.int (i : Int)) (fun (i : Nat) => if (!(lds.contains i)) then some (D.int (i : Int)) else none) (by simp only [exB, evE, evL, tstE, M.bnd, opt_some, bnd_ret, opt_bnd, mapO, List.length_cons, List.length_nil, List.map_cons, List.map_nil, List.replicate, List.getElem?_cons_zero, List.getElem?_cons_succ, List.cons_append, List.nil_append, if_true, if_false, Bool.false_eq_true, Nat.sub_self, Bool.true_and, Bool.and_true, Bool.false_and, Bool.and_false, Bool.not_true, Bool.not_false, Bool.or_false, Bool.false_or, Bool.true_or, Bool.or_true, decide_true, decide_false, Option.map_some, permD, setW, List.set_cons_zero, List.set_cons_succ, bindP, bindPs, v_rd, v_dat, v_non, v_bl, v_int, v_lst, v_tup, v_str, v_add, v_sub, v_mul, v_fdiv, v_mod, v_cat, v_app, v_neg, v_lt, v_le, v_gt, v_ge, v_eq, v_isN, v_notN, v_in, v_nin, v_inS, v_eqI, v_eqS, v_neI, v_neS, v_lenS, v_lenL, v_lenT, v_repr, v_intI, v_intB, v_abs, v_ty_int_non, v_ty_int_bl, v_ty_int_int, v_ty_int_str, v_ty_int_lst, v_ty_int_tup, v_ty_int_dct, v_ty_bool_non, v_ty_bool_bl, v_ty_bool_int, v_ty_bool_str, v_ty_bool_lst, v_ty_bool_tup, v_ty_bool_dct, v_ty_str_non, v_ty_str_bl, v_ty_str_int, v_ty_str_str, v_ty_str_lst, v_ty_str_tup, v_ty_str_dct, v_ty_list_non, v_ty_list_bl, v_ty_list_int, v_ty_list_str, v_ty_list_lst, v_ty_list_tup, v_ty_list_dct, v_ty_tuple_non, v_ty_tuple_bl, v_ty_tuple_int, v_ty_tuple_str, v_ty_tuple_lst, v_ty_tuple_tup, v_ty_tuple_dct, v_ty_dict_non, v_ty_dict_bl, v_ty_dict_int, v_ty_dict_str, v_ty_dict_lst, v_ty_dict_tup, v_ty_dict_dct, v_isN_non, v_isN_int, v_isN_bl, v_isN_str, v_sliS, v_sliL, v_sliT, v_optN, v_optI, v_meT, v_join, v_walL, v_walT, v_walS, v_rng1, v_rng2, v_enum, v_zip, v_fewF, v_any1, v_any2, Nat.zero_add, Nat.reduceAdd, Nat.reduceLT, Nat.reduceLeDiff, Nat.reduceSub, Nat.reduceEqDiff, le_lim]) rfl (by
      show (if small (many : Int) then some (upD 0 (many : Int).toNat) else none) = _
      rw [if_pos (by unfold small; rw [Bool.and_eq_true, decide_eq_true_eq, decide_eq_true_eq]; omega), ← upD_map]
      rfl) rfl (by rw [List.length_range']; unfold lim; omega) fun i hi => by
        refine ⟨_, by simp only [exB, evE, evL, tstE, M.bnd, opt_some, bnd_ret, opt_bnd, mapO, List.length_cons, List.length_nil, List.map_cons, List.map_nil, List.replicate, List.getElem?_cons_zero, List.getElem?_cons_succ, List.cons_append, List.nil_append, if_true, if_false, Bool.false_eq_true, Nat.sub_self, Bool.true_and, Bool.and_true, Bool.false_and, Bool.and_false, Bool.not_true, Bool.not_false, Bool.or_false, Bool.false_or, Bool.true_or, Bool.or_true, decide_true, decide_false, Option.map_some, permD, setW, List.set_cons_zero, List.set_cons_succ, bindP, bindPs, v_rd, v_dat, v_non, v_bl, v_int, v_lst, v_tup, v_str, v_add, v_sub, v_mul, v_fdiv, v_mod, v_cat, v_app, v_neg, v_lt, v_le, v_gt, v_ge, v_eq, v_isN, v_notN, v_in, v_nin, v_inS, v_eqI, v_eqS, v_neI, v_neS, v_lenS, v_lenL, v_lenT, v_repr, v_intI, v_intB, v_abs, v_ty_int_non, v_ty_int_bl, v_ty_int_int, v_ty_int_str, v_ty_int_lst, v_ty_int_tup, v_ty_int_dct, v_ty_bool_non, v_ty_bool_bl, v_ty_bool_int, v_ty_bool_str, v_ty_bool_lst, v_ty_bool_tup, v_ty_bool_dct, v_ty_str_non, v_ty_str_bl, v_ty_str_int, v_ty_str_str, v_ty_str_lst, v_ty_str_tup, v_ty_str_dct, v_ty_list_non, v_ty_list_bl, v_ty_list_int, v_ty_list_str, v_ty_list_lst, v_ty_list_tup, v_ty_list_dct, v_ty_tuple_non, v_ty_tuple_bl, v_ty_tuple_int, v_ty_tuple_str, v_ty_tuple_lst, v_ty_tuple_tup, v_ty_tuple_dct, v_ty_dict_non, v_ty_dict_bl, v_ty_dict_int, v_ty_dict_str, v_ty_dict_lst, v_ty_dict_tup, v_ty_dict_dct, v_isN_non, v_isN_int, v_isN_bl, v_isN_str, v_sliS, v_sliL, v_sliT, v_optN, v_optI, v_meT, v_join, v_walL, v_walT, v_walS, v_rng1, v_rng2, v_enum, v_zip, v_fewF, v_any1, v_any2, Nat.zero_add, Nat.reduceAdd, Nat.reduceLT, Nat.reduceLeDiff, Nat.reduceSub, Nat.reduceEqDiff, le_lim]; rfl, el_if ?_ fun _ => ?_⟩
        · simp only [exB, evE, evL, tstE, M.bnd, opt_some, bnd_ret, opt_bnd, mapO, List.length_cons, List.length_nil, List.map_cons, List.map_nil, List.replicate, List.getElem?_cons_zero, List.getElem?_cons_succ, List.cons_append, List.nil_append, if_true, if_false, Bool.false_eq_true, Nat.sub_self, Bool.true_and, Bool.and_true, Bool.false_and, Bool.and_false, Bool.not_true, Bool.not_false, Bool.or_false, Bool.false_or, Bool.true_or, Bool.or_true, decide_true, decide_false, Option.map_some, permD, setW, List.set_cons_zero, List.set_cons_succ, bindP, bindPs, v_rd, v_dat, v_non, v_bl, v_int, v_lst, v_tup, v_str, v_add, v_sub, v_mul, v_fdiv, v_mod, v_cat, v_app, v_neg, v_lt, v_le, v_gt, v_ge, v_eq, v_isN, v_notN, v_in, v_nin, v_inS, v_eqI, v_eqS, v_neI, v_neS, v_lenS, v_lenL, v_lenT, v_repr, v_intI, v_intB, v_abs, v_ty_int_non, v_ty_int_bl, v_ty_int_int, v_ty_int_str, v_ty_int_lst, v_ty_int_tup, v_ty_int_dct, v_ty_bool_non, v_ty_bool_bl, v_ty_bool_int, v_ty_bool_str, v_ty_bool_lst, v_ty_bool_tup, v_ty_bool_dct, v_ty_str_non, v_ty_str_bl, v_ty_str_int, v_ty_str_str, v_ty_str_lst, v_ty_str_tup, v_ty_str_dct, v_ty_list_non, v_ty_list_bl, v_ty_list_int, v_ty_list_str, v_ty_list_lst, v_ty_list_tup, v_ty_list_dct, v_ty_tuple_non, v_ty_tuple_bl, v_ty_tuple_int, v_ty_tuple_str, v_ty_tuple_lst, v_ty_tuple_tup, v_ty_tuple_dct, v_ty_dict_non, v_ty_dict_bl, v_ty_dict_int, v_ty_dict_str, v_ty_dict_lst, v_ty_dict_tup, v_ty_dict_dct, v_isN_non, v_isN_int, v_isN_bl, v_isN_str, v_sliS, v_sliL, v_sliT, v_optN, v_optI, v_meT, v_join, v_walL, v_walT, v_walS, v_rng1, v_rng2, v_enum, v_zip, v_fewF, v_any1, v_any2, Nat.zero_add, Nat.reduceAdd, Nat.reduceLT, Nat.reduceLeDiff, Nat.reduceSub, Nat.reduceEqDiff, le_lim, inD_dI]
        · simp only [exB, evE, evL, tstE, M.bnd, opt_some, bnd_ret, opt_bnd, mapO, List.length_cons, List.length_nil, List.map_cons, List.map_nil, List.replicate, List.getElem?_cons_zero, List.getElem?_cons_succ, List.cons_append, List.nil_append, if_true, if_false, Bool.false_eq_true, Nat.sub_self, Bool.true_and, Bool.and_true, Bool.false_and, Bool.and_false, Bool.not_true, Bool.not_false, Bool.or_false, Bool.false_or, Bool.true_or, Bool.or_true, decide_true, decide_false, Option.map_some, permD, setW, List.set_cons_zero, List.set_cons_succ, bindP, bindPs, v_rd, v_dat, v_non, v_bl, v_int, v_lst, v_tup, v_str, v_add, v_sub, v_mul, v_fdiv, v_mod, v_cat, v_app, v_neg, v_lt, v_le, v_gt, v_ge, v_eq, v_isN, v_notN, v_in, v_nin, v_inS, v_eqI, v_eqS, v_neI, v_neS, v_lenS, v_lenL, v_lenT, v_repr, v_intI, v_intB, v_abs, v_ty_int_non, v_ty_int_bl, v_ty_int_int, v_ty_int_str, v_ty_int_lst, v_ty_int_tup, v_ty_int_dct, v_ty_bool_non, v_ty_bool_bl, v_ty_bool_int, v_ty_bool_str, v_ty_bool_lst, v_ty_bool_tup, v_ty_bool_dct, v_ty_str_non, v_ty_str_bl, v_ty_str_int, v_ty_str_str, v_ty_str_lst, v_ty_str_tup, v_ty_str_dct, v_ty_list_non, v_ty_list_bl, v_ty_list_int, v_ty_list_str, v_ty_list_lst, v_ty_list_tup, v_ty_list_dct, v_ty_tuple_non, v_ty_tuple_bl, v_ty_tuple_int, v_ty_tuple_str, v_ty_tuple_lst, v_ty_tuple_tup, v_ty_tuple_dct, v_ty_dict_non, v_ty_dict_bl, v_ty_dict_int, v_ty_dict_str, v_ty_dict_lst, v_ty_dict_tup, v_ty_dict_dct, v_isN_non, v_isN_int, v_isN_bl, v_isN_str, v_sliS, v_sliL, v_sliT, v_optN, v_optI, v_meT, v_join, v_walL, v_walT, v_walS, v_rng1, v_rng2, v_enum, v_zip, v_fewF, v_any1, v_any2, Nat.zero_add, Nat.reduceAdd, Nat.reduceLT, Nat.reduceLeDiff, Nat.reduceSub, Nat.reduceEqDiff, le_lim]
  unfold k0_noughts
  rw [q, fm_if]
  unfold dI BA.frees
  rw [List.range_eq_range']
  rfl
theorem flat_zero (many : Nat) : (List.replicate many [D.int 0]).flatten = (List.replicate many (0 : Int)).map .int := by
  induction many with
  | zero => rfl
  | succ k ih => rw [List.replicate_succ, List.flatten_cons, ih, List.replicate_succ]; rfl
theorem zeros_ok {many : Nat} (hm : many ≤ 1000) : ((0 : Int) ≤ (many : Int) ∧ (many : Int).toNat ≤ lim) ∧ [D.int 0].length * (many : Int).toNat ≤ lim := by
  have hl : many ≤ lim := by unfold lim; omega
  rw [Int.toNat_natCast, List.length_singleton, Nat.one_mul]
  exact ⟨⟨by omega, hl⟩, hl⟩
theorem zeros_mul {many : Nat} (hm : many ≤ 1000) : binD .mul (.lst [.int 0]) (.int (many : Int)) = some (.lst ((List.replicate many (0 : Int)).map .int)) := by
  rw [v_mulL, if_pos (zeros_ok hm), Int.toNat_natCast, flat_zero]
theorem n_s2 (hm : many ≤ 1000) : exB C s2_noughts [e0, some (.d (.int many)), a2, a3, a7, a8, a9, a10, e1, e2, e3] S = .ret (.nx, [e0, some (.d (.int many)), a2, a3, a7, a8, a9, some (.r S.length), e1, e2, e3], S ++ [.lst ((List.replicate many (0 : Int)).map .int)]) := by
  have e5 := zeros_mul hm
  simp only [s2_noughts, x1_noughts, exB, evE, evL, tstE, M.bnd, opt_some, bnd_ret, opt_bnd, mapO, List.length_cons, List.length_nil, List.map_cons, List.map_nil, List.replicate, List.getElem?_cons_zero, List.getElem?_cons_succ, List.cons_append, List.nil_append, if_true, if_false, Bool.false_eq_true, Nat.sub_self, Bool.true_and, Bool.and_true, Bool.false_and, Bool.and_false, Bool.not_true, Bool.not_false, Bool.or_false, Bool.false_or, Bool.true_or, Bool.or_true, decide_true, decide_false, Option.map_some, permD, setW, List.set_cons_zero, List.set_cons_succ, bindP, bindPs, v_rd, v_dat, v_non, v_bl, v_int, v_lst, v_tup, v_str, v_add, v_sub, v_mul, v_fdiv, v_mod, v_cat, v_app, v_neg, v_lt, v_le, v_gt, v_ge, v_eq, v_isN, v_notN, v_in, v_nin, v_inS, v_eqI, v_eqS, v_neI, v_neS, v_lenS, v_lenL, v_lenT, v_repr, v_intI, v_intB, v_abs, v_ty_int_non, v_ty_int_bl, v_ty_int_int, v_ty_int_str, v_ty_int_lst, v_ty_int_tup, v_ty_int_dct, v_ty_bool_non, v_ty_bool_bl, v_ty_bool_int, v_ty_bool_str, v_ty_bool_lst, v_ty_bool_tup, v_ty_bool_dct, v_ty_str_non, v_ty_str_bl, v_ty_str_int, v_ty_str_str, v_ty_str_lst, v_ty_str_tup, v_ty_str_dct, v_ty_list_non, v_ty_list_bl, v_ty_list_int, v_ty_list_str, v_ty_list_lst, v_ty_list_tup, v_ty_list_dct, v_ty_tuple_non, v_ty_tuple_bl, v_ty_tuple_int, v_ty_tuple_str, v_ty_tuple_lst, v_ty_tuple_tup, v_ty_tuple_dct, v_ty_dict_non, v_ty_dict_bl, v_ty_dict_int, v_ty_dict_str, v_ty_dict_lst, v_ty_dict_tup, v_ty_dict_dct, v_isN_non, v_isN_int, v_isN_bl, v_isN_str, v_sliS, v_sliL, v_sliT, v_optN, v_optI, v_meT, v_join, v_walL, v_walT, v_walS, v_rng1, v_rng2, v_enum, v_zip, v_fewF, v_any1, v_any2, Nat.zero_add, Nat.reduceAdd, Nat.reduceLT, Nat.reduceLeDiff, Nat.reduceSub, Nat.reduceEqDiff, le_lim, e5, v_new]
theorem ints_set (l : List Int) (i : Nat) (v : Int) : (l.map D.int).set i (.int v) = (l.set i v).map D.int := by rw [List.map_set]
theorem n_s3 (ht : S[t]? = some (.lst (tl.map .int))) (hf : f < tl.length) : exB C s3_noughts [e0, a2, a3, some (.d (.int f)), a7, a8, some (.d (.int dv)), some (.r t), e1, e2, e3] S = .ret (.nx, [e0, a2, a3, some (.d (.int f)), a7, a8, some (.d (.int dv)), some (.r t), e1, e2, e3], S.set t (.lst ((tl.set f dv).map .int))) := by
  have e : L2.ixN (tl.map D.int).length (f : Int) = some f := ixN_nat (by simpa using hf)
  simp only [s3_noughts, exB, evE, evL, tstE, M.bnd, opt_some, bnd_ret, opt_bnd, mapO, List.length_cons, List.length_nil, List.map_cons, List.map_nil, List.replicate, List.getElem?_cons_zero, List.getElem?_cons_succ, List.cons_append, List.nil_append, if_true, if_false, Bool.false_eq_true, Nat.sub_self, Bool.true_and, Bool.and_true, Bool.false_and, Bool.and_false, Bool.not_true, Bool.not_false, Bool.or_false, Bool.false_or, Bool.true_or, Bool.or_true, decide_true, decide_false, Option.map_some, permD, setW, List.set_cons_zero, List.set_cons_succ, bindP, bindPs, v_rd, v_dat, v_non, v_bl, v_int, v_lst, v_tup, v_str, v_add, v_sub, v_mul, v_fdiv, v_mod, v_cat, v_app, v_neg, v_lt, v_le, v_gt, v_ge, v_eq, v_isN, v_notN, v_in, v_nin, v_inS, v_eqI, v_eqS, v_neI, v_neS, v_lenS, v_lenL, v_lenT, v_repr, v_intI, v_intB, v_abs, v_ty_int_non, v_ty_int_bl, v_ty_int_int, v_ty_int_str, v_ty_int_lst, v_ty_int_tup, v_ty_int_dct, v_ty_bool_non, v_ty_bool_bl, v_ty_bool_int, v_ty_bool_str, v_ty_bool_lst, v_ty_bool_tup, v_ty_bool_dct, v_ty_str_non, v_ty_str_bl, v_ty_str_int, v_ty_str_str, v_ty_str_lst, v_ty_str_tup, v_ty_str_dct, v_ty_list_non, v_ty_list_bl, v_ty_list_int, v_ty_list_str, v_ty_list_lst, v_ty_list_tup, v_ty_list_dct, v_ty_tuple_non, v_ty_tuple_bl, v_ty_tuple_int, v_ty_tuple_str, v_ty_tuple_lst, v_ty_tuple_tup, v_ty_tuple_dct, v_ty_dict_non, v_ty_dict_bl, v_ty_dict_int, v_ty_dict_str, v_ty_dict_lst, v_ty_dict_tup, v_ty_dict_dct, v_isN_non, v_isN_int, v_isN_bl, v_isN_str, v_sliS, v_sliL, v_sliT, v_optN, v_optI, v_meT, v_join, v_walL, v_walT, v_walS, v_rng1, v_rng2, v_enum, v_zip, v_fewF, v_any1, v_any2, Nat.zero_add, Nat.reduceAdd, Nat.reduceLT, Nat.reduceLeDiff, Nat.reduceSub, Nat.reduceEqDiff, le_lim, ht, e, ints_set]
theorem n_s5 : ∀ (ls : List Nat) (us : BA.Rows) (tl : List Int) (S : Sto) (b9 b10 : Option W), S[t]? = some (.lst (tl.map .int)) → (∀ l ∈ ls, l < tl.length) → (∀ u ∈ us, f < u.length) →
    ∃ c9 c10, forL (fun env' S' => exB C y0_noughts env' S') (.cons (.name 9) (.cons (.name 10) .nil)) ((ls.zip us).map fun p => .tup [.int (p.1 : Nat), dR p.2]) [e0, a2, a3, some (.d (.int f)), a7, a8, e1, some (.r t), e2, b9, b10] S = .ret (.nx, [e0, a2, a3, some (.d (.int f)), a7, a8, e1, some (.r t), e2, c9, c10], S.set t (.lst ((BA.putAll f ls us tl).map .int)))
  | [], us, tl, S, b9, b10, hS, _, _ => by
    refine ⟨b9, b10, ?_⟩
    have e : S.set t (.lst (tl.map .int)) = S := by
      obtain ⟨h1, h2⟩ := List.getElem?_eq_some_iff.mp hS
      rw [← h2]
      exact List.set_getElem_self h1
    simp only [List.zip_nil_left, List.map_nil, forL, BA.putAll, e]
  | l :: ls, [], tl, S, b9, b10, hS, _, _ => by
    refine ⟨b9, b10, ?_⟩
    have e : S.set t (.lst (tl.map .int)) = S := by
      obtain ⟨h1, h2⟩ := List.getElem?_eq_some_iff.mp hS
      rw [← h2]
      exact List.set_getElem_self h1
    simp only [List.zip_nil_right, List.map_nil, forL, BA.putAll, e]
  | l :: ls, u :: us, tl, S, b9, b10, hS, hl, hu => by
    have ht : t < S.length := (List.getElem?_eq_some_iff.mp hS).1
    have hll := hl l (List.mem_cons_self ..)
    have e : L2.ixN (tl.map D.int).length (l : Int) = some l := ixN_nat (by simpa using hll)
    have turn : exB C y0_noughts [e0, a2, a3, some (.d (.int f)), a7, a8, e1, some (.r t), e2, some (.d (.int l)), some (.d (dR u))] S = .ret (.nx, [e0, a2, a3, some (.d (.int f)), a7, a8, e1, some (.r t), e2, some (.d (.int l)), some (.d (dR u))], S.set t (.lst ((tl.set l (- BA.cell u f)).map .int))) := by
      unfold y0_noughts
      refine sq1 ?_
      simp only [s4_noughts, exB, evE, evL, tstE, M.bnd, opt_some, bnd_ret, opt_bnd, mapO, List.length_cons, List.length_nil, List.map_cons, List.map_nil, List.replicate, List.getElem?_cons_zero, List.getElem?_cons_succ, List.cons_append, List.nil_append, if_true, if_false, Bool.false_eq_true, Nat.sub_self, Bool.true_and, Bool.and_true, Bool.false_and, Bool.and_false, Bool.not_true, Bool.not_false, Bool.or_false, Bool.false_or, Bool.true_or, Bool.or_true, decide_true, decide_false, Option.map_some, permD, setW, List.set_cons_zero, List.set_cons_succ, bindP, bindPs, v_rd, v_dat, v_non, v_bl, v_int, v_lst, v_tup, v_str, v_add, v_sub, v_mul, v_fdiv, v_mod, v_cat, v_app, v_neg, v_lt, v_le, v_gt, v_ge, v_eq, v_isN, v_notN, v_in, v_nin, v_inS, v_eqI, v_eqS, v_neI, v_neS, v_lenS, v_lenL, v_lenT, v_repr, v_intI, v_intB, v_abs, v_ty_int_non, v_ty_int_bl, v_ty_int_int, v_ty_int_str, v_ty_int_lst, v_ty_int_tup, v_ty_int_dct, v_ty_bool_non, v_ty_bool_bl, v_ty_bool_int, v_ty_bool_str, v_ty_bool_lst, v_ty_bool_tup, v_ty_bool_dct, v_ty_str_non, v_ty_str_bl, v_ty_str_int, v_ty_str_str, v_ty_str_lst, v_ty_str_tup, v_ty_str_dct, v_ty_list_non, v_ty_list_bl, v_ty_list_int, v_ty_list_str, v_ty_list_lst, v_ty_list_tup, v_ty_list_dct, v_ty_tuple_non, v_ty_tuple_bl, v_ty_tuple_int, v_ty_tuple_str, v_ty_tuple_lst, v_ty_tuple_tup, v_ty_tuple_dct, v_ty_dict_non, v_ty_dict_bl, v_ty_dict_int, v_ty_dict_str, v_ty_dict_lst, v_ty_dict_tup, v_ty_dict_dct, v_isN_non, v_isN_int, v_isN_bl, v_isN_str, v_sliS, v_sliL, v_sliT, v_optN, v_optI, v_meT, v_join, v_walL, v_walT, v_walS, v_rng1, v_rng2, v_enum, v_zip, v_fewF, v_any1, v_any2, Nat.zero_add, Nat.reduceAdd, Nat.reduceLT, Nat.reduceLeDiff, Nat.reduceSub, Nat.reduceEqDiff, le_lim, atI_cell (hu u (List.mem_cons_self ..)), hS, e, ints_set]
    obtain ⟨c9, c10, q⟩ := n_s5 ls us (tl.set l (- BA.cell u f)) (S.set t (.lst ((tl.set l (- BA.cell u f)).map .int))) (some (.d (.int l))) (some (.d (dR u))) (set_set_get ht) (fun l' h' => by rw [List.length_set]; exact hl l' (List.mem_cons_of_mem _ h')) fun u' h' => hu u' (List.mem_cons_of_mem _ h')
    refine ⟨c9, c10, ?_⟩
    have eb : bindP (.cons (.name 9) (.cons (.name 10) .nil)) (.tup [.int (l : Nat), dR u]) [e0, a2, a3, some (.d (.int f)), a7, a8, e1, some (.r t), e2, b9, b10] = some [e0, a2, a3, some (.d (.int f)), a7, a8, e1, some (.r t), e2, some (.d (.int l)), some (.d (dR u))] := by simp only [exB, evE, evL, tstE, M.bnd, opt_some, bnd_ret, opt_bnd, mapO, List.length_cons, List.length_nil, List.map_cons, List.map_nil, List.replicate, List.getElem?_cons_zero, List.getElem?_cons_succ, List.cons_append, List.nil_append, if_true, if_false, Bool.false_eq_true, Nat.sub_self, Bool.true_and, Bool.and_true, Bool.false_and, Bool.and_false, Bool.not_true, Bool.not_false, Bool.or_false, Bool.false_or, Bool.true_or, Bool.or_true, decide_true, decide_false, Option.map_some, permD, setW, List.set_cons_zero, List.set_cons_succ, bindP, bindPs, v_rd, v_dat, v_non, v_bl, v_int, v_lst, v_tup, v_str, v_add, v_sub, v_mul, v_fdiv, v_mod, v_cat, v_app, v_neg, v_lt, v_le, v_gt, v_ge, v_eq, v_isN, v_notN, v_in, v_nin, v_inS, v_eqI, v_eqS, v_neI, v_neS, v_lenS, v_lenL, v_lenT, v_repr, v_intI, v_intB, v_abs, v_ty_int_non, v_ty_int_bl, v_ty_int_int, v_ty_int_str, v_ty_int_lst, v_ty_int_tup, v_ty_int_dct, v_ty_bool_non, v_ty_bool_bl, v_ty_bool_int, v_ty_bool_str, v_ty_bool_lst, v_ty_bool_tup, v_ty_bool_dct, v_ty_str_non, v_ty_str_bl, v_ty_str_int, v_ty_str_str, v_ty_str_lst, v_ty_str_tup, v_ty_str_dct, v_ty_list_non, v_ty_list_bl, v_ty_list_int, v_ty_list_str, v_ty_list_lst, v_ty_list_tup, v_ty_list_dct, v_ty_tuple_non, v_ty_tuple_bl, v_ty_tuple_int, v_ty_tuple_str, v_ty_tuple_lst, v_ty_tuple_tup, v_ty_tuple_dct, v_ty_dict_non, v_ty_dict_bl, v_ty_dict_int, v_ty_dict_str, v_ty_dict_lst, v_ty_dict_tup, v_ty_dict_dct, v_isN_non, v_isN_int, v_isN_bl, v_isN_str, v_sliS, v_sliL, v_sliT, v_optN, v_optI, v_meT, v_join, v_walL, v_walT, v_walS, v_rng1, v_rng2, v_enum, v_zip, v_fewF, v_any1, v_any2, Nat.zero_add, Nat.reduceAdd, Nat.reduceLT, Nat.reduceLeDiff, Nat.reduceSub, Nat.reduceEqDiff, le_lim]
    rw [List.zip_cons_cons, List.map_cons]
    simp only [forL, eb, turn, bnd_ret, BA.putAll]
    rw [q, List.set_set]
end
end RL.T
end

section
set_option Elab.async false
set_option linter.all false
set_option maxRecDepth 100000
set_option maxHeartbeats 400000
namespace RL.T
open PySem L2
theorem Sm.mono {b b' : Nat} {r : List Int} (h : Sm b r) (hb : b ≤ b') : Sm b' r := fun p hp => Nat.lt_of_lt_of_le (h p hp) (Nat.pow_le_pow_right (by decide) hb)
section
variable {n many f t b m : Nat} {rows done : BA.Rows} {S : Sto} {e0 e1 e2 e3 e4 e5 e6 e8 e9 : Option W} {tl : List Int}
theorem n_s6 (h0 : S[0]? = some (.lst (dRs done))) (ht : S[t]? = some (.lst (tl.map .int))) (hne : t ≠ 0) (hd : done.length ≤ 1000) (hs : Sm 8000 tl) (hl : tl.length ≤ 1000) :
    exB (run tbl.T (n + 2)) s6_noughts [e0, e1, some (.r 0), e3, e4, e5, e6, some (.r t), e8, e9, e2] S = .ret (.nx, [e0, e1, some (.r 0), e3, e4, e5, e6, some (.r t), e8, e9, e2], (S.set t .dead).set 0 (.lst (dRs (done ++ [BA.shr tl])))) := by
  have q := r_shr n hs hl
  have e : (S.set t .dead)[0]? = some (.lst (dRs done)) := by rw [List.getElem?_set_ne hne]; exact h0
  have lt : (dRs done).length < lim := by rw [dRs_len]; unfold lim; omega
  have ea : dRs done ++ [dR (BA.shr tl)] = dRs (done ++ [BA.shr tl]) := by simp [dRs]
  have q : dcall (run tbl.T (n + 2)) 1 [.lst (tl.map .int)] = .ret (dR (BA.shr tl)) := q
  simp only [s6_noughts, exB, evE, evL, tstE, M.bnd, opt_some, bnd_ret, opt_bnd, mapO, List.length_cons, List.length_nil, List.map_cons, List.map_nil, List.replicate, List.getElem?_cons_zero, List.getElem?_cons_succ, List.cons_append, List.nil_append, if_true, if_false, Bool.false_eq_true, Nat.sub_self, Bool.true_and, Bool.and_true, Bool.false_and, Bool.and_false, Bool.not_true, Bool.not_false, Bool.or_false, Bool.false_or, Bool.true_or, Bool.or_true, decide_true, decide_false, Option.map_some, permD, setW, List.set_cons_zero, List.set_cons_succ, bindP, bindPs, v_rd, v_dat, v_non, v_bl, v_int, v_lst, v_tup, v_str, v_add, v_sub, v_mul, v_fdiv, v_mod, v_cat, v_app, v_neg, v_lt, v_le, v_gt, v_ge, v_eq, v_isN, v_notN, v_in, v_nin, v_inS, v_eqI, v_eqS, v_neI, v_neS, v_lenS, v_lenL, v_lenT, v_repr, v_intI, v_intB, v_abs, v_ty_int_non, v_ty_int_bl, v_ty_int_int, v_ty_int_str, v_ty_int_lst, v_ty_int_tup, v_ty_int_dct, v_ty_bool_non, v_ty_bool_bl, v_ty_bool_int, v_ty_bool_str, v_ty_bool_lst, v_ty_bool_tup, v_ty_bool_dct, v_ty_str_non, v_ty_str_bl, v_ty_str_int, v_ty_str_str, v_ty_str_lst, v_ty_str_tup, v_ty_str_dct, v_ty_list_non, v_ty_list_bl, v_ty_list_int, v_ty_list_str, v_ty_list_lst, v_ty_list_tup, v_ty_list_dct, v_ty_tuple_non, v_ty_tuple_bl, v_ty_tuple_int, v_ty_tuple_str, v_ty_tuple_lst, v_ty_tuple_tup, v_ty_tuple_dct, v_ty_dict_non, v_ty_dict_bl, v_ty_dict_int, v_ty_dict_str, v_ty_dict_lst, v_ty_dict_tup, v_ty_dict_dct, v_isN_non, v_isN_int, v_isN_bl, v_isN_str, v_sliS, v_sliL, v_sliT, v_optN, v_optI, v_meT, v_join, v_walL, v_walT, v_walS, v_rng1, v_rng2, v_enum, v_zip, v_fewF, v_any1, v_any2, Nat.zero_add, Nat.reduceAdd, Nat.reduceLT, Nat.reduceLeDiff, Nat.reduceSub, Nat.reduceEqDiff, le_lim, h0, ht, q, e, lt, ea]
theorem told_sm (g : Good b m rows) (hb : b ≤ 8000) {f : Nat} : Sm 8000 (BA.toldF (BA.runS rows m) m f) := by
  obtain ⟨f1, f2, f3⟩ := g.fine m
  have up : (2 : Nat) ^ b ≤ 2 ^ 8000 := Nat.pow_le_pow_right (by decide) hb
  intro p hp
  unfold BA.toldF at hp
  rcases BA.putAll_in f hp with h | ⟨u, hu, rfl⟩
  · rcases List.mem_or_eq_of_mem_set h with h | h
    · rw [List.mem_replicate] at h
      rw [h.2]
      exact Nat.two_pow_pos _
    · rw [h]
      exact Nat.lt_of_lt_of_le f3 up
  · rw [Int.natAbs_neg]
    exact Nat.lt_of_lt_of_le (f1 u (List.mem_of_mem_take hu) f) up
/-- what the loop over the free columns keeps -/
structure IN (rows : BA.Rows) (m i : Nat) (env : EnvD) (S : Sto) : Prop where
  ex : ∃ a3 a7 a8 a9 a10, env = [some (.d (.lst (dRs rows))), some (.d (.int m)), some (.r 0), a3, some (.d (.lst (dRs ((BA.runS rows m).left.take (BA.runS rows m).lds.length)))), some (.d (.lst (dI (BA.runS rows m).lds))), some (.d (.int (BA.runS rows m).d)), a7, a8, a9, a10] ∧
    S[0]? = some (.lst (dRs ((BA.nts rows m).take i)))
theorem n_turn (g : Good b m rows) (hb : b ≤ 8000) {i : Nat} (hf : (BA.frees m (BA.runS rows m).lds)[i]? = some f) {env : EnvD} (hI : IN rows m i env S) : ∃ env' env2 S2, bindP (.name 3) (.int (f : Int)) env = some env' ∧ exB (run tbl.T (n + 2)) y1_noughts env' S = .ret (.nx, env2, S2) ∧ IN rows m (i + 1) env2 S2 := by
  obtain ⟨a3, a7, a8, a9, a10, rfl, hS⟩ := hI
  have wide := g.wide
  have few := g.few
  obtain ⟨sh1, sh2, sh3⟩ := BA.runS_shape g.len m
  have hfm := BA.frees_mem.mp (List.mem_of_getElem? hf)
  have hS0 : 0 < S.length := (List.getElem?_eq_some_iff.mp hS).1
  have hlt : ∀ l ∈ (BA.runS rows m).lds, l < m := fun l hl => by
    rw [BA.runS_rank g.len] at hl
    exact BA.leads_lt hl
  refine ⟨[some (.d (.lst (dRs rows))), some (.d (.int m)), some (.r 0), some (.d (.int f)), some (.d (.lst (dRs ((BA.runS rows m).left.take (BA.runS rows m).lds.length)))), some (.d (.lst (dI (BA.runS rows m).lds))), some (.d (.int (BA.runS rows m).d)), a7, a8, a9, a10], ?_⟩
  have s2 := n_s2 (C := run tbl.T (n + 2)) (many := m) (S := S) (e0 := some (.d (.lst (dRs rows)))) (a2 := some (.r 0)) (a3 := some (.d (.int f))) (a7 := some (.d (.lst (dRs ((BA.runS rows m).left.take (BA.runS rows m).lds.length))))) (a8 := some (.d (.lst (dI (BA.runS rows m).lds)))) (a9 := some (.d (.int (BA.runS rows m).d))) (a10 := a7) (e1 := a8) (e2 := a9) (e3 := a10) (by omega)
  have t1 : (S ++ [Ob.lst ((List.replicate m (0 : Int)).map .int)])[S.length]? = some (.lst ((List.replicate m (0 : Int)).map .int)) := by simp
  have z1 : (S ++ [Ob.lst ((List.replicate m (0 : Int)).map .int)])[0]? = some (.lst (dRs ((BA.nts rows m).take i))) := by
    rw [List.getElem?_append_left hS0]; exact hS
  have l1 : (S ++ [Ob.lst ((List.replicate m (0 : Int)).map .int)]).length = S.length + 1 := by simp
  generalize hS1 : (S ++ [Ob.lst ((List.replicate m (0 : Int)).map .int)]) = S1 at s2 t1 z1 l1
  have s3 := n_s3 (C := run tbl.T (n + 2)) (f := f) (t := S.length) (S := S1) (dv := (BA.runS rows m).d) (e0 := some (.d (.lst (dRs rows)))) (a2 := some (.d (.int m))) (a3 := some (.r 0)) (a7 := some (.d (.lst (dRs ((BA.runS rows m).left.take (BA.runS rows m).lds.length))))) (a8 := some (.d (.lst (dI (BA.runS rows m).lds)))) (e1 := a8) (e2 := a9) (e3 := a10) t1 (by simpa using hfm.1)
  have t2 : (S1.set S.length (.lst (((List.replicate m (0 : Int)).set f (BA.runS rows m).d).map .int)))[S.length]? = some (.lst (((List.replicate m (0 : Int)).set f (BA.runS rows m).d).map .int)) := set_set_get (by omega)
  have z2 : (S1.set S.length (.lst (((List.replicate m (0 : Int)).set f (BA.runS rows m).d).map .int)))[0]? = some (.lst (dRs ((BA.nts rows m).take i))) := by
    rw [List.getElem?_set_ne (by omega)]; exact z1
  have l2 : (S1.set S.length (.lst (((List.replicate m (0 : Int)).set f (BA.runS rows m).d).map .int))).length = S.length + 1 := by simpa using l1
  generalize hS2 : (S1.set S.length (.lst (((List.replicate m (0 : Int)).set f (BA.runS rows m).d).map .int))) = S2 at s3 t2 z2 l2
  obtain ⟨c9, c10, q5⟩ := n_s5 (C := run tbl.T (n + 2)) (f := f) (t := S.length) (e0 := some (.d (.lst (dRs rows)))) (a2 := some (.d (.int m))) (a3 := some (.r 0)) (a7 := some (.d (.lst (dRs ((BA.runS rows m).left.take (BA.runS rows m).lds.length))))) (a8 := some (.d (.lst (dI (BA.runS rows m).lds)))) (e1 := some (.d (.int (BA.runS rows m).d))) (e2 := a8)
    (BA.runS rows m).lds ((BA.runS rows m).left.take (BA.runS rows m).lds.length) ((List.replicate m (0 : Int)).set f (BA.runS rows m).d) S2 a9 a10 t2 (fun l hl => by simpa using hlt l hl) fun u hu => by rw [sh2 u (List.mem_of_mem_take hu)]; exact hfm.1
  have s5 : exB (run tbl.T (n + 2)) s5_noughts [some (.d (.lst (dRs rows))), some (.d (.int m)), some (.r 0), some (.d (.int f)), some (.d (.lst (dRs ((BA.runS rows m).left.take (BA.runS rows m).lds.length)))), some (.d (.lst (dI (BA.runS rows m).lds))), some (.d (.int (BA.runS rows m).d)), some (.r S.length), a8, a9, a10] S2 = .ret (.nx, [some (.d (.lst (dRs rows))), some (.d (.int m)), some (.r 0), some (.d (.int f)), some (.d (.lst (dRs ((BA.runS rows m).left.take (BA.runS rows m).lds.length)))), some (.d (.lst (dI (BA.runS rows m).lds))), some (.d (.int (BA.runS rows m).d)), some (.r S.length), a8, c9, c10], S2.set S.length (.lst ((BA.putAll f (BA.runS rows m).lds ((BA.runS rows m).left.take (BA.runS rows m).lds.length) ((List.replicate m (0 : Int)).set f (BA.runS rows m).d)).map .int))) := by
    unfold s5_noughts
    rw [exB]
    have e1 : evL (run tbl.T (n + 2)) (.cons (.var 5) (.cons (.var 4) (.nil))) [some (.d (.lst (dRs rows))), some (.d (.int m)), some (.r 0), some (.d (.int f)), some (.d (.lst (dRs ((BA.runS rows m).left.take (BA.runS rows m).lds.length)))), some (.d (.lst (dI (BA.runS rows m).lds))), some (.d (.int (BA.runS rows m).d)), some (.r S.length), a8, a9, a10] S2 = .ret ([.d (.lst (dI (BA.runS rows m).lds)), .d (.lst (dRs ((BA.runS rows m).left.take (BA.runS rows m).lds.length)))], S2) := by simp only [exB, evE, evL, tstE, M.bnd, opt_some, bnd_ret, opt_bnd, mapO, List.length_cons, List.length_nil, List.map_cons, List.map_nil, List.replicate, List.getElem?_cons_zero, List.getElem?_cons_succ, List.cons_append, List.nil_append, if_true, if_false, Bool.false_eq_true, Nat.sub_self, Bool.true_and, Bool.and_true, Bool.false_and, Bool.and_false, Bool.not_true, Bool.not_false, Bool.or_false, Bool.false_or, Bool.true_or, Bool.or_true, decide_true, decide_false, Option.map_some, permD, setW, List.set_cons_zero, List.set_cons_succ, bindP, bindPs, v_rd, v_dat, v_non, v_bl, v_int, v_lst, v_tup, v_str, v_add, v_sub, v_mul, v_fdiv, v_mod, v_cat, v_app, v_neg, v_lt, v_le, v_gt, v_ge, v_eq, v_isN, v_notN, v_in, v_nin, v_inS, v_eqI, v_eqS, v_neI, v_neS, v_lenS, v_lenL, v_lenT, v_repr, v_intI, v_intB, v_abs, v_ty_int_non, v_ty_int_bl, v_ty_int_int, v_ty_int_str, v_ty_int_lst, v_ty_int_tup, v_ty_int_dct, v_ty_bool_non, v_ty_bool_bl, v_ty_bool_int, v_ty_bool_str, v_ty_bool_lst, v_ty_bool_tup, v_ty_bool_dct, v_ty_str_non, v_ty_str_bl, v_ty_str_int, v_ty_str_str, v_ty_str_lst, v_ty_str_tup, v_ty_str_dct, v_ty_list_non, v_ty_list_bl, v_ty_list_int, v_ty_list_str, v_ty_list_lst, v_ty_list_tup, v_ty_list_dct, v_ty_tuple_non, v_ty_tuple_bl, v_ty_tuple_int, v_ty_tuple_str, v_ty_tuple_lst, v_ty_tuple_tup, v_ty_tuple_dct, v_ty_dict_non, v_ty_dict_bl, v_ty_dict_int, v_ty_dict_str, v_ty_dict_lst, v_ty_dict_tup, v_ty_dict_dct, v_isN_non, v_isN_int, v_isN_bl, v_isN_str, v_sliS, v_sliL, v_sliT, v_optN, v_optI, v_meT, v_join, v_walL, v_walT, v_walS, v_rng1, v_rng2, v_enum, v_zip, v_fewF, v_any1, v_any2, Nat.zero_add, Nat.reduceAdd, Nat.reduceLT, Nat.reduceLeDiff, Nat.reduceSub, Nat.reduceEqDiff, le_lim]
    have e2 : walkD .zip [.lst (dI (BA.runS rows m).lds), .lst (dRs ((BA.runS rows m).left.take (BA.runS rows m).lds.length))] = some (((BA.runS rows m).lds.zip ((BA.runS rows m).left.take (BA.runS rows m).lds.length)).map fun p => .tup [.int (p.1 : Nat), dR p.2]) := by
      show some (zipD _ _) = _
      unfold dI dRs
      rw [zipD_map]
    rw [e1, bnd_ret]
    simp only [mapO, v_dat, opt_some, e2, v_fewF, if_true]
    exact q5
  have t5 : (S2.set S.length (.lst ((BA.putAll f (BA.runS rows m).lds ((BA.runS rows m).left.take (BA.runS rows m).lds.length) ((List.replicate m (0 : Int)).set f (BA.runS rows m).d)).map .int)))[S.length]? = some (.lst ((BA.toldF (BA.runS rows m) m f).map .int)) := set_set_get (by omega)
  have z5 : (S2.set S.length (.lst ((BA.putAll f (BA.runS rows m).lds ((BA.runS rows m).left.take (BA.runS rows m).lds.length) ((List.replicate m (0 : Int)).set f (BA.runS rows m).d)).map .int)))[0]? = some (.lst (dRs ((BA.nts rows m).take i))) := by
    rw [List.getElem?_set_ne (by omega)]; exact z2
  generalize hS5 : (S2.set S.length (.lst ((BA.putAll f (BA.runS rows m).lds ((BA.runS rows m).left.take (BA.runS rows m).lds.length) ((List.replicate m (0 : Int)).set f (BA.runS rows m).d)).map .int))) = S5 at s5 t5 z5
  have nl : (BA.nts rows m).length ≤ m := by have := BA.nts_count g.len; omega
  have s6 := n_s6 (n := n) (e0 := some (.d (.lst (dRs rows)))) (e1 := some (.d (.int m))) (e3 := some (.d (.int f))) (e4 := some (.d (.lst (dRs ((BA.runS rows m).left.take (BA.runS rows m).lds.length))))) (e5 := some (.d (.lst (dI (BA.runS rows m).lds)))) (e6 := some (.d (.int (BA.runS rows m).d))) (e8 := a8) (e9 := c9) (e2 := c10) z5 t5 (by omega) (by rw [List.length_take]; omega) (told_sm g hb) (by rw [BA.told_length]; omega)
  refine ⟨_, _, by simp only [exB, evE, evL, tstE, M.bnd, opt_some, bnd_ret, opt_bnd, mapO, List.length_cons, List.length_nil, List.map_cons, List.map_nil, List.replicate, List.getElem?_cons_zero, List.getElem?_cons_succ, List.cons_append, List.nil_append, if_true, if_false, Bool.false_eq_true, Nat.sub_self, Bool.true_and, Bool.and_true, Bool.false_and, Bool.and_false, Bool.not_true, Bool.not_false, Bool.or_false, Bool.false_or, Bool.true_or, Bool.or_true, decide_true, decide_false, Option.map_some, permD, setW, List.set_cons_zero, List.set_cons_succ, bindP, bindPs, v_rd, v_dat, v_non, v_bl, v_int, v_lst, v_tup, v_str, v_add, v_sub, v_mul, v_fdiv, v_mod, v_cat, v_app, v_neg, v_lt, v_le, v_gt, v_ge, v_eq, v_isN, v_notN, v_in, v_nin, v_inS, v_eqI, v_eqS, v_neI, v_neS, v_lenS, v_lenL, v_lenT, v_repr, v_intI, v_intB, v_abs, v_ty_int_non, v_ty_int_bl, v_ty_int_int, v_ty_int_str, v_ty_int_lst, v_ty_int_tup, v_ty_int_dct, v_ty_bool_non, v_ty_bool_bl, v_ty_bool_int, v_ty_bool_str, v_ty_bool_lst, v_ty_bool_tup, v_ty_bool_dct, v_ty_str_non, v_ty_str_bl, v_ty_str_int, v_ty_str_str, v_ty_str_lst, v_ty_str_tup, v_ty_str_dct, v_ty_list_non, v_ty_list_bl, v_ty_list_int, v_ty_list_str, v_ty_list_lst, v_ty_list_tup, v_ty_list_dct, v_ty_tuple_non, v_ty_tuple_bl, v_ty_tuple_int, v_ty_tuple_str, v_ty_tuple_lst, v_ty_tuple_tup, v_ty_tuple_dct, v_ty_dict_non, v_ty_dict_bl, v_ty_dict_int, v_ty_dict_str, v_ty_dict_lst, v_ty_dict_tup, v_ty_dict_dct, v_isN_non, v_isN_int, v_isN_bl, v_isN_str, v_sliS, v_sliL, v_sliT, v_optN, v_optI, v_meT, v_join, v_walL, v_walT, v_walS, v_rng1, v_rng2, v_enum, v_zip, v_fewF, v_any1, v_any2, Nat.zero_add, Nat.reduceAdd, Nat.reduceLT, Nat.reduceLeDiff, Nat.reduceSub, Nat.reduceEqDiff, le_lim], ((sq s2 (t := .cons s3_noughts (.cons s5_noughts (.cons s6_noughts .nil)))).trans ((sq s3).trans ((sq s5).trans (sq1 s6)))), ⟨_, _, _, _, _, rfl, ?_⟩⟩
  have hz : 0 < S5.length := (List.getElem?_eq_some_iff.mp z5).1
  rw [set_set_get (by simpa using hz)]
  congr 2
  congr 1
  have hn : (BA.nts rows m)[i]? = some (BA.shr (BA.toldF (BA.runS rows m) m f)) := by
    unfold BA.nts
    rw [List.getElem?_map, hf]
    rfl
  obtain ⟨hi, he⟩ := List.getElem?_eq_some_iff.mp hn
  rw [← List.take_append_getElem hi, he]
theorem r_noughts (g : Good b m rows) (hb : b ≤ 8000) : dcall (run tbl.T (n + 3)) 5 [.lst (dRs rows), .int m] = .ret (.lst (dRs (BA.nts rows m))) := by
  have wide := g.wide
  have q := r_stepped (n := n) g
  have nl : (BA.nts rows m).length = (BA.frees m (BA.runS rows m).lds).length := by unfold BA.nts; rw [List.length_map]
  have e : biD .list [.lst (dRs rows)] = some (.lst (dRs rows)) := rfl
  have e0 : exB (run tbl.T (n + 2)) s0_noughts [some (.d (.lst (dRs rows))), some (.d (.int m)), none, none, none, none, none, none, none, none, none] [] = .ret (.nx, [some (.d (.lst (dRs rows))), some (.d (.int m)), none, none, some (.d (.lst (dRs ((BA.runS rows m).left.take (BA.runS rows m).lds.length)))), some (.d (.lst (dI (BA.runS rows m).lds))), some (.d (.int (BA.runS rows m).d)), none, none, none, none], []) := by
    simp only [s0_noughts, x0_noughts, exB, evE, evL, tstE, M.bnd, opt_some, bnd_ret, opt_bnd, mapO, List.length_cons, List.length_nil, List.map_cons, List.map_nil, List.replicate, List.getElem?_cons_zero, List.getElem?_cons_succ, List.cons_append, List.nil_append, if_true, if_false, Bool.false_eq_true, Nat.sub_self, Bool.true_and, Bool.and_true, Bool.false_and, Bool.and_false, Bool.not_true, Bool.not_false, Bool.or_false, Bool.false_or, Bool.true_or, Bool.or_true, decide_true, decide_false, Option.map_some, permD, setW, List.set_cons_zero, List.set_cons_succ, bindP, bindPs, v_rd, v_dat, v_non, v_bl, v_int, v_lst, v_tup, v_str, v_add, v_sub, v_mul, v_fdiv, v_mod, v_cat, v_app, v_neg, v_lt, v_le, v_gt, v_ge, v_eq, v_isN, v_notN, v_in, v_nin, v_inS, v_eqI, v_eqS, v_neI, v_neS, v_lenS, v_lenL, v_lenT, v_repr, v_intI, v_intB, v_abs, v_ty_int_non, v_ty_int_bl, v_ty_int_int, v_ty_int_str, v_ty_int_lst, v_ty_int_tup, v_ty_int_dct, v_ty_bool_non, v_ty_bool_bl, v_ty_bool_int, v_ty_bool_str, v_ty_bool_lst, v_ty_bool_tup, v_ty_bool_dct, v_ty_str_non, v_ty_str_bl, v_ty_str_int, v_ty_str_str, v_ty_str_lst, v_ty_str_tup, v_ty_str_dct, v_ty_list_non, v_ty_list_bl, v_ty_list_int, v_ty_list_str, v_ty_list_lst, v_ty_list_tup, v_ty_list_dct, v_ty_tuple_non, v_ty_tuple_bl, v_ty_tuple_int, v_ty_tuple_str, v_ty_tuple_lst, v_ty_tuple_tup, v_ty_tuple_dct, v_ty_dict_non, v_ty_dict_bl, v_ty_dict_int, v_ty_dict_str, v_ty_dict_lst, v_ty_dict_tup, v_ty_dict_dct, v_isN_non, v_isN_int, v_isN_bl, v_isN_str, v_sliS, v_sliL, v_sliT, v_optN, v_optI, v_meT, v_join, v_walL, v_walT, v_walS, v_rng1, v_rng2, v_enum, v_zip, v_fewF, v_any1, v_any2, Nat.zero_add, Nat.reduceAdd, Nat.reduceLT, Nat.reduceLeDiff, Nat.reduceSub, Nat.reduceEqDiff, le_lim, e, q]
  have e1 : exB (run tbl.T (n + 2)) s1_noughts [some (.d (.lst (dRs rows))), some (.d (.int m)), none, none, some (.d (.lst (dRs ((BA.runS rows m).left.take (BA.runS rows m).lds.length)))), some (.d (.lst (dI (BA.runS rows m).lds))), some (.d (.int (BA.runS rows m).d)), none, none, none, none] [] = .ret (.nx, [some (.d (.lst (dRs rows))), some (.d (.int m)), some (.r 0), none, some (.d (.lst (dRs ((BA.runS rows m).left.take (BA.runS rows m).lds.length)))), some (.d (.lst (dI (BA.runS rows m).lds))), some (.d (.int (BA.runS rows m).d)), none, none, none, none], [.lst []]) := by
    simp only [s1_noughts, exB, evE, evL, tstE, M.bnd, opt_some, bnd_ret, opt_bnd, mapO, List.length_cons, List.length_nil, List.map_cons, List.map_nil, List.replicate, List.getElem?_cons_zero, List.getElem?_cons_succ, List.cons_append, List.nil_append, if_true, if_false, Bool.false_eq_true, Nat.sub_self, Bool.true_and, Bool.and_true, Bool.false_and, Bool.and_false, Bool.not_true, Bool.not_false, Bool.or_false, Bool.false_or, Bool.true_or, Bool.or_true, decide_true, decide_false, Option.map_some, permD, setW, List.set_cons_zero, List.set_cons_succ, bindP, bindPs, v_rd, v_dat, v_non, v_bl, v_int, v_lst, v_tup, v_str, v_add, v_sub, v_mul, v_fdiv, v_mod, v_cat, v_app, v_neg, v_lt, v_le, v_gt, v_ge, v_eq, v_isN, v_notN, v_in, v_nin, v_inS, v_eqI, v_eqS, v_neI, v_neS, v_lenS, v_lenL, v_lenT, v_repr, v_intI, v_intB, v_abs, v_ty_int_non, v_ty_int_bl, v_ty_int_int, v_ty_int_str, v_ty_int_lst, v_ty_int_tup, v_ty_int_dct, v_ty_bool_non, v_ty_bool_bl, v_ty_bool_int, v_ty_bool_str, v_ty_bool_lst, v_ty_bool_tup, v_ty_bool_dct, v_ty_str_non, v_ty_str_bl, v_ty_str_int, v_ty_str_str, v_ty_str_lst, v_ty_str_tup, v_ty_str_dct, v_ty_list_non, v_ty_list_bl, v_ty_list_int, v_ty_list_str, v_ty_list_lst, v_ty_list_tup, v_ty_list_dct, v_ty_tuple_non, v_ty_tuple_bl, v_ty_tuple_int, v_ty_tuple_str, v_ty_tuple_lst, v_ty_tuple_tup, v_ty_tuple_dct, v_ty_dict_non, v_ty_dict_bl, v_ty_dict_int, v_ty_dict_str, v_ty_dict_lst, v_ty_dict_tup, v_ty_dict_dct, v_isN_non, v_isN_int, v_isN_bl, v_isN_str, v_sliS, v_sliL, v_sliT, v_optN, v_optI, v_meT, v_join, v_walL, v_walT, v_walS, v_rng1, v_rng2, v_enum, v_zip, v_fewF, v_any1, v_any2, Nat.zero_add, Nat.reduceAdd, Nat.reduceLT, Nat.reduceLeDiff, Nat.reduceSub, Nat.reduceEqDiff, le_lim]
  obtain ⟨env2, S2, e7, hI⟩ := ex_for (C := run tbl.T (n + 2)) (chk := false) (pt := .name 3) (k := .val) (src := .cons (k0_noughts) .nil) (body := y1_noughts) (env := [some (.d (.lst (dRs rows))), some (.d (.int m)), some (.r 0), none, some (.d (.lst (dRs ((BA.runS rows m).left.take (BA.runS rows m).lds.length)))), some (.d (.lst (dI (BA.runS rows m).lds))), some (.d (.int (BA.runS rows m).d)), none, none, none, none]) (S := [.lst []]) (I := fun i env S => IN rows m i env S)
    (ws := [.d (.lst (dI (BA.frees m (BA.runS rows m).lds)))]) (S1 := [.lst []]) (ds := [.lst (dI (BA.frees m (BA.runS rows m).lds))]) (its := dI (BA.frees m (BA.runS rows m).lds)) (by simp only [exB, evE, evL, tstE, M.bnd, opt_some, bnd_ret, opt_bnd, mapO, List.length_cons, List.length_nil, List.map_cons, List.map_nil, List.replicate, List.getElem?_cons_zero, List.getElem?_cons_succ, List.cons_append, List.nil_append, if_true, if_false, Bool.false_eq_true, Nat.sub_self, Bool.true_and, Bool.and_true, Bool.false_and, Bool.and_false, Bool.not_true, Bool.not_false, Bool.or_false, Bool.false_or, Bool.true_or, Bool.or_true, decide_true, decide_false, Option.map_some, permD, setW, List.set_cons_zero, List.set_cons_succ, bindP, bindPs, v_rd, v_dat, v_non, v_bl, v_int, v_lst, v_tup, v_str, v_add, v_sub, v_mul, v_fdiv, v_mod, v_cat, v_app, v_neg, v_lt, v_le, v_gt, v_ge, v_eq, v_isN, v_notN, v_in, v_nin, v_inS, v_eqI, v_eqS, v_neI, v_neS, v_lenS, v_lenL, v_lenT, v_repr, v_intI, v_intB, v_abs, v_ty_int_non, v_ty_int_bl, v_ty_int_int, v_ty_int_str, v_ty_int_lst, v_ty_int_tup, v_ty_int_dct, v_ty_bool_non, v_ty_bool_bl, v_ty_bool_int, v_ty_bool_str, v_ty_bool_lst, v_ty_bool_tup, v_ty_bool_dct, v_ty_str_non, v_ty_str_bl, v_ty_str_int, v_ty_str_str, v_ty_str_lst, v_ty_str_tup, v_ty_str_dct, v_ty_list_non, v_ty_list_bl, v_ty_list_int, v_ty_list_str, v_ty_list_lst, v_ty_list_tup, v_ty_list_dct, v_ty_tuple_non, v_ty_tuple_bl, v_ty_tuple_int, v_ty_tuple_str, v_ty_tuple_lst, v_ty_tuple_tup, v_ty_tuple_dct, v_ty_dict_non, v_ty_dict_bl, v_ty_dict_int, v_ty_dict_str, v_ty_dict_lst, v_ty_dict_tup, v_ty_dict_dct, v_isN_non, v_isN_int, v_isN_bl, v_isN_str, v_sliS, v_sliL, v_sliT, v_optN, v_optI, v_meT, v_join, v_walL, v_walT, v_walS, v_rng1, v_rng2, v_enum, v_zip, v_fewF, v_any1, v_any2, Nat.zero_add, Nat.reduceAdd, Nat.reduceLT, Nat.reduceLeDiff, Nat.reduceSub, Nat.reduceEqDiff, le_lim, n_frees (show m ≤ 1000 by omega)]) rfl rfl rfl ⟨none, none, none, none, none, rfl, rfl⟩ fun i d hd env S hI => by
      obtain ⟨f, hf, rfl⟩ := getElem?_map_some hd
      exact n_turn g hb hf hI
  obtain ⟨a3, a7, a8, a9, a10, rfl, hS⟩ := hI
  rw [dI_len, ← nl, List.take_length] at hS
  refine fn_ret T5 rfl (env := [some (.d (.lst (dRs rows))), some (.d (.int m)), some (.r 0), a3, some (.d (.lst (dRs ((BA.runS rows m).left.take (BA.runS rows m).lds.length)))), some (.d (.lst (dI (BA.runS rows m).lds))), some (.d (.int (BA.runS rows m).d)), a7, a8, a9, a10]) (S := S2.set 0 .dead) ?_
  show exB _ b_noughts [some (.d (.lst (dRs rows))), some (.d (.int m)), none, none, none, none, none, none, none, none, none] [] = _
  unfold b_noughts
  rw [sq e0, sq e1, sq (s := s7_noughts) e7]
  refine sqR ?_
  simp only [s8_noughts, exB, evE, evL, tstE, M.bnd, opt_some, bnd_ret, opt_bnd, mapO, List.length_cons, List.length_nil, List.map_cons, List.map_nil, List.replicate, List.getElem?_cons_zero, List.getElem?_cons_succ, List.cons_append, List.nil_append, if_true, if_false, Bool.false_eq_true, Nat.sub_self, Bool.true_and, Bool.and_true, Bool.false_and, Bool.and_false, Bool.not_true, Bool.not_false, Bool.or_false, Bool.false_or, Bool.true_or, Bool.or_true, decide_true, decide_false, Option.map_some, permD, setW, List.set_cons_zero, List.set_cons_succ, bindP, bindPs, v_rd, v_dat, v_non, v_bl, v_int, v_lst, v_tup, v_str, v_add, v_sub, v_mul, v_fdiv, v_mod, v_cat, v_app, v_neg, v_lt, v_le, v_gt, v_ge, v_eq, v_isN, v_notN, v_in, v_nin, v_inS, v_eqI, v_eqS, v_neI, v_neS, v_lenS, v_lenL, v_lenT, v_repr, v_intI, v_intB, v_abs, v_ty_int_non, v_ty_int_bl, v_ty_int_int, v_ty_int_str, v_ty_int_lst, v_ty_int_tup, v_ty_int_dct, v_ty_bool_non, v_ty_bool_bl, v_ty_bool_int, v_ty_bool_str, v_ty_bool_lst, v_ty_bool_tup, v_ty_bool_dct, v_ty_str_non, v_ty_str_bl, v_ty_str_int, v_ty_str_str, v_ty_str_lst, v_ty_str_tup, v_ty_str_dct, v_ty_list_non, v_ty_list_bl, v_ty_list_int, v_ty_list_str, v_ty_list_lst, v_ty_list_tup, v_ty_list_dct, v_ty_tuple_non, v_ty_tuple_bl, v_ty_tuple_int, v_ty_tuple_str, v_ty_tuple_lst, v_ty_tuple_tup, v_ty_tuple_dct, v_ty_dict_non, v_ty_dict_bl, v_ty_dict_int, v_ty_dict_str, v_ty_dict_lst, v_ty_dict_tup, v_ty_dict_dct, v_isN_non, v_isN_int, v_isN_bl, v_isN_str, v_sliS, v_sliL, v_sliT, v_optN, v_optI, v_meT, v_join, v_walL, v_walT, v_walS, v_rng1, v_rng2, v_enum, v_zip, v_fewF, v_any1, v_any2, Nat.zero_add, Nat.reduceAdd, Nat.reduceLT, Nat.reduceLeDiff, Nat.reduceSub, Nat.reduceEqDiff, le_lim, hS]
end
end RL.T
end

section
set_option Elab.async false
set_option linter.all false
set_option maxRecDepth 100000
set_option maxHeartbeats 400000
namespace RL.T
open PySem L2
abbrev NoE : Nat → List D → Prop := fun _ _ => False
/-! picks -/
theorem r_pickL (n : Nat) (ds : List D) : dcall (run tbl.T (n + 1)) 7 [.pen, .lst ds] = .draw ds.length fun v => M.opt (subD (.lst ds) (.int v)) .ret := by
  rw [run_fn T7 rfl]
  simp only [b__law_pick, s0__law_pick, x0__law_pick, exB, evE, evL, M.bnd, opt_some, bnd_ret, v_rd, v_dat, mapO, List.length_cons, List.length_nil, List.map_cons, List.map_nil, List.replicate, List.getElem?_cons_zero, List.getElem?_cons_succ, List.cons_append, List.nil_append, v_lenL, opt_bnd, if_true, Nat.sub_self]
theorem r_pickR (n : Nat) {S : Sto} {ds : List D} (h : S[0]? = some (.lst ds)) : run tbl.T (n + 1) 7 [.d .pen, .r 0] S = .draw ds.length fun v => M.opt (subD (.lst ds) (.int v)) fun d => .ret (.d d, S) := by
  rw [run_fnS T7 rfl]
  simp only [b__law_pick, s0__law_pick, x0__law_pick, exB, evE, evL, M.bnd, opt_some, bnd_ret, v_rd, v_dat, rd_r h, mapO, List.length_cons, List.length_nil, List.map_cons, List.map_nil, List.replicate, List.getElem?_cons_zero, List.getElem?_cons_succ, List.cons_append, List.nil_append, v_lenL, opt_bnd, if_true, Nat.sub_self]
theorem ints_of {P : Int → Prop} : ∀ {ds : List D}, (∀ d ∈ ds, ∃ p : Int, d = .int p ∧ P p) → ∃ r : List Int, ds = r.map .int ∧ ∀ p ∈ r, P p
  | [], _ => ⟨[], rfl, fun p hp => by cases hp⟩
  | d :: ds, h => by
    obtain ⟨p, rfl, hp⟩ := h d (List.mem_cons_self ..)
    obtain ⟨r, rfl, hr⟩ := ints_of (ds := ds) fun d hd => h d (List.mem_cons_of_mem _ hd)
    refine ⟨p :: r, rfl, fun q hq => ?_⟩
    rcases List.mem_cons.mp hq with e | hq
    · rw [e]; exact hp
    · exact hr q hq
def Bd (k : Nat) : Nat := 10 ^ 30 * 4 ^ k
def Le' (B : Nat) (r : List Int) : Prop := ∀ p ∈ r, p.natAbs ≤ B
section
variable {n m : Nat} {S : Sto} {pool : List Int} {rows : BA.Rows} {a2 a5 a6 a7 a8 a9 a10 a11 : Option W}
theorem w_k0 (hm : m ≤ 1000) (hp : pool ≠ []) (hpl : pool.length ≤ 1000) (hb : Le' (Bd 0) pool) : (evE (run tbl.T (n + 1)) k0__law_rows [some (.d .pen), some (.d (.int m)), a2, some (.d (dR pool)), some (.r 0), a5, a6, a7, a8, a9, a10, a11] S).wp (fun r => r.2 = S ∧ ∃ row : List Int, r.1 = .d (dR row) ∧ row.length = m ∧ Le' (Bd 0) row) NoE := by
  unfold k0__law_rows
  refine wp_comp (ws := [.d (.int m)]) (ds := [.int m]) (its := upD 0 m) (S1 := S) (by simp only [exB, evE, evL, tstE, M.bnd, opt_some, bnd_ret, opt_bnd, mapO, List.length_cons, List.length_nil, List.map_cons, List.map_nil, List.replicate, List.getElem?_cons_zero, List.getElem?_cons_succ, List.cons_append, List.nil_append, if_true, if_false, Bool.false_eq_true, Nat.sub_self, Bool.true_and, Bool.and_true, Bool.false_and, Bool.and_false, Bool.not_true, Bool.not_false, Bool.or_false, Bool.false_or, Bool.true_or, Bool.or_true, decide_true, decide_false, Option.map_some, permD, setW, List.set_cons_zero, List.set_cons_succ, bindP, bindPs, v_rd, v_dat, v_non, v_bl, v_int, v_lst, v_tup, v_str, v_add, v_sub, v_mul, v_fdiv, v_mod, v_cat, v_app, v_neg, v_lt, v_le, v_gt, v_ge, v_eq, v_isN, v_notN, v_in, v_nin, v_inS, v_eqI, v_eqS, v_neI, v_neS, v_lenS, v_lenL, v_lenT, v_repr, v_intI, v_intB, v_abs, v_ty_int_non, v_ty_int_bl, v_ty_int_int, v_ty_int_str, v_ty_int_lst, v_ty_int_tup, v_ty_int_dct, v_ty_bool_non, v_ty_bool_bl, v_ty_bool_int, v_ty_bool_str, v_ty_bool_lst, v_ty_bool_tup, v_ty_bool_dct, v_ty_str_non, v_ty_str_bl, v_ty_str_int, v_ty_str_str, v_ty_str_lst, v_ty_str_tup, v_ty_str_dct, v_ty_list_non, v_ty_list_bl, v_ty_list_int, v_ty_list_str, v_ty_list_lst, v_ty_list_tup, v_ty_list_dct, v_ty_tuple_non, v_ty_tuple_bl, v_ty_tuple_int, v_ty_tuple_str, v_ty_tuple_lst, v_ty_tuple_tup, v_ty_tuple_dct, v_ty_dict_non, v_ty_dict_bl, v_ty_dict_int, v_ty_dict_str, v_ty_dict_lst, v_ty_dict_tup, v_ty_dict_dct, v_isN_non, v_isN_int, v_isN_bl, v_isN_str, v_sliS, v_sliL, v_sliT, v_optN, v_optI, v_meT, v_join, v_walL, v_walT, v_walS, v_rng1, v_rng2, v_enum, v_zip, v_fewF, v_any1, v_any2, Nat.zero_add, Nat.reduceAdd, Nat.reduceLT, Nat.reduceLeDiff, Nat.reduceSub, Nat.reduceEqDiff, le_lim]) rfl (by
    show (if small (m : Int) then some (upD 0 (m : Int).toNat) else none) = _
    rw [if_pos (by unfold small; rw [Bool.and_eq_true, decide_eq_true_eq, decide_eq_true_eq]; omega)]
    rfl) ?_ ?_
  · have : (upD 0 m).length = m := by rw [show upD 0 m = (List.range' 0 m).map fun (i : Nat) => D.int (i : Int) from upD_map m 0]; simp
    unfold fewD
    rw [this]
    simp
    unfold lim
    omega
  · have hlen : (upD 0 m).length = m := by rw [show upD 0 m = (List.range' 0 m).map fun (i : Nat) => D.int (i : Int) from upD_map m 0]; simp
    refine M.wp_mono _ (compL_wpE (P := fun d => ∃ p : Int, d = .int p ∧ p.natAbs ≤ Bd 0) (upD 0 m) [] (fun d hd => ?_) (by rw [hlen]; simp; unfold lim; omega) fun y hy => by cases hy) (fun r q => ?_) fun _ _ q => q
    · refine ⟨[some (.d .pen), some (.d (.int m)), a2, some (.d (dR pool)), some (.r 0), a5, some (.d d), a7, a8, a9, a10, a11], by simp only [exB, evE, evL, tstE, M.bnd, opt_some, bnd_ret, opt_bnd, mapO, List.length_cons, List.length_nil, List.map_cons, List.map_nil, List.replicate, List.getElem?_cons_zero, List.getElem?_cons_succ, List.cons_append, List.nil_append, if_true, if_false, Bool.false_eq_true, Nat.sub_self, Bool.true_and, Bool.and_true, Bool.false_and, Bool.and_false, Bool.not_true, Bool.not_false, Bool.or_false, Bool.false_or, Bool.true_or, Bool.or_true, decide_true, decide_false, Option.map_some, permD, setW, List.set_cons_zero, List.set_cons_succ, bindP, bindPs, v_rd, v_dat, v_non, v_bl, v_int, v_lst, v_tup, v_str, v_add, v_sub, v_mul, v_fdiv, v_mod, v_cat, v_app, v_neg, v_lt, v_le, v_gt, v_ge, v_eq, v_isN, v_notN, v_in, v_nin, v_inS, v_eqI, v_eqS, v_neI, v_neS, v_lenS, v_lenL, v_lenT, v_repr, v_intI, v_intB, v_abs, v_ty_int_non, v_ty_int_bl, v_ty_int_int, v_ty_int_str, v_ty_int_lst, v_ty_int_tup, v_ty_int_dct, v_ty_bool_non, v_ty_bool_bl, v_ty_bool_int, v_ty_bool_str, v_ty_bool_lst, v_ty_bool_tup, v_ty_bool_dct, v_ty_str_non, v_ty_str_bl, v_ty_str_int, v_ty_str_str, v_ty_str_lst, v_ty_str_tup, v_ty_str_dct, v_ty_list_non, v_ty_list_bl, v_ty_list_int, v_ty_list_str, v_ty_list_lst, v_ty_list_tup, v_ty_list_dct, v_ty_tuple_non, v_ty_tuple_bl, v_ty_tuple_int, v_ty_tuple_str, v_ty_tuple_lst, v_ty_tuple_tup, v_ty_tuple_dct, v_ty_dict_non, v_ty_dict_bl, v_ty_dict_int, v_ty_dict_str, v_ty_dict_lst, v_ty_dict_tup, v_ty_dict_dct, v_isN_non, v_isN_int, v_isN_bl, v_isN_str, v_sliS, v_sliL, v_sliT, v_optN, v_optI, v_meT, v_join, v_walL, v_walT, v_walS, v_rng1, v_rng2, v_enum, v_zip, v_fewF, v_any1, v_any2, Nat.zero_add, Nat.reduceAdd, Nat.reduceLT, Nat.reduceLeDiff, Nat.reduceSub, Nat.reduceEqDiff, le_lim], ?_⟩
      unfold elF
      simp only [exB, evE, evL, tstE, M.bnd, opt_some, bnd_ret, opt_bnd, mapO, List.length_cons, List.length_nil, List.map_cons, List.map_nil, List.replicate, List.getElem?_cons_zero, List.getElem?_cons_succ, List.cons_append, List.nil_append, if_true, if_false, Bool.false_eq_true, Nat.sub_self, Bool.true_and, Bool.and_true, Bool.false_and, Bool.and_false, Bool.not_true, Bool.not_false, Bool.or_false, Bool.false_or, Bool.true_or, Bool.or_true, decide_true, decide_false, Option.map_some, permD, setW, List.set_cons_zero, List.set_cons_succ, bindP, bindPs, v_rd, v_dat, v_non, v_bl, v_int, v_lst, v_tup, v_str, v_add, v_sub, v_mul, v_fdiv, v_mod, v_cat, v_app, v_neg, v_lt, v_le, v_gt, v_ge, v_eq, v_isN, v_notN, v_in, v_nin, v_inS, v_eqI, v_eqS, v_neI, v_neS, v_lenS, v_lenL, v_lenT, v_repr, v_intI, v_intB, v_abs, v_ty_int_non, v_ty_int_bl, v_ty_int_int, v_ty_int_str, v_ty_int_lst, v_ty_int_tup, v_ty_int_dct, v_ty_bool_non, v_ty_bool_bl, v_ty_bool_int, v_ty_bool_str, v_ty_bool_lst, v_ty_bool_tup, v_ty_bool_dct, v_ty_str_non, v_ty_str_bl, v_ty_str_int, v_ty_str_str, v_ty_str_lst, v_ty_str_tup, v_ty_str_dct, v_ty_list_non, v_ty_list_bl, v_ty_list_int, v_ty_list_str, v_ty_list_lst, v_ty_list_tup, v_ty_list_dct, v_ty_tuple_non, v_ty_tuple_bl, v_ty_tuple_int, v_ty_tuple_str, v_ty_tuple_lst, v_ty_tuple_tup, v_ty_tuple_dct, v_ty_dict_non, v_ty_dict_bl, v_ty_dict_int, v_ty_dict_str, v_ty_dict_lst, v_ty_dict_tup, v_ty_dict_dct, v_isN_non, v_isN_int, v_isN_bl, v_isN_str, v_sliS, v_sliL, v_sliT, v_optN, v_optI, v_meT, v_join, v_walL, v_walT, v_walS, v_rng1, v_rng2, v_enum, v_zip, v_fewF, v_any1, v_any2, Nat.zero_add, Nat.reduceAdd, Nat.reduceLT, Nat.reduceLeDiff, Nat.reduceSub, Nat.reduceEqDiff, le_lim, r_pickL, dR]
      refine wp_dL rfl (by simpa using List.length_pos_iff.mpr hp) (by simpa using hpl) fun d hd => ?_
      obtain ⟨p, hpp, rfl⟩ := List.mem_map.mp hd
      exact ⟨rfl, _, rfl, p, rfl, hb p hpp⟩
    · obtain ⟨q1, q2, q3⟩ := q
      obtain ⟨row, e, hr⟩ := ints_of q2
      rw [hlen, List.length_nil, Nat.zero_add] at q3
      exact ⟨q1, row, by rw [e]; rfl, by rw [← q3, e, List.length_map], hr⟩
end
theorem Bd_succ (k : Nat) : Bd (k + 1) = 4 * Bd k := by unfold Bd; rw [Nat.pow_succ]; omega
theorem Bd_le (k : Nat) : Bd k ≤ Bd (k + 1) := by rw [Bd_succ]; omega
theorem Bd_0 (k : Nat) : Bd 0 ≤ Bd k := by
  induction k with
  | zero => exact Nat.le_refl _
  | succ k ih => exact Nat.le_trans ih (Bd_le k)
/-- rows as the law makes them -/
structure Rws (m k : Nat) (rows : BA.Rows) : Prop where
  few : rows.length ≤ k
  len : ∀ r ∈ rows, r.length = m
  sm : ∀ r ∈ rows, Le' (Bd rows.length) r
inductive JR (m k : Nat) : EnvD → Sto → Prop
  | mk {pool : List Int} {rows : BA.Rows} {a2 a5 a6 a7 a8 a9 a10 a11 : Option W} (hp : pool ≠ []) (hpl : pool.length ≤ 1000) (hb : Le' (Bd 0) pool) (hr : Rws m k rows) : JR m k [some (.d .pen), some (.d (.int m)), a2, some (.d (dR pool)), some (.r 0), a5, a6, a7, a8, a9, a10, a11] [.lst (dRs rows)]
section
variable {n m k : Nat} {S : Sto} {pool row : List Int} {rows : BA.Rows} {a2 a5 a6 a7 a8 a9 a10 a11 : Option W}
theorem w_s1 (hm : m ≤ 1000) (hp : pool ≠ []) (hpl : pool.length ≤ 1000) (hb : Le' (Bd 0) pool) : Tri (run tbl.T (n + 1)) s1__law_rows [some (.d .pen), some (.d (.int m)), a2, some (.d (dR pool)), some (.r 0), a5, a6, a7, a8, a9, a10, a11] S (NX fun env' S' => S' = S ∧ ∃ row : List Int, env' = [some (.d .pen), some (.d (.int m)), a2, some (.d (dR pool)), some (.r 0), some (.d (dR row)), a6, a7, a8, a9, a10, a11] ∧ row.length = m ∧ Le' (Bd 0) row) NoE := by
  constructor
  unfold s1__law_rows
  rw [exB, M.wp_bnd]
  refine M.wp_mono _ (w_k0 hm hp hpl hb) (fun r q => ?_) fun _ _ q => q
  obtain ⟨w, S'⟩ := r
  obtain ⟨q1, row, q2, q3, q4⟩ := q
  have q1 : S' = S := q1
  have q2 : w = .d (dR row) := q2
  subst q1 q2
  exact ⟨rfl, rfl, row, rfl, q3, q4⟩
theorem combine (hr : Rws m k rows) {a b : List Int} (ha : a ∈ rows) (hb : b ∈ rows) {v : Int} (v0 : 0 ≤ v) (v1 : v < 7) : (List.zipWith (fun p q => p + (v - 3) * q) a b).length = m ∧ Le' (Bd (rows.length + 1)) (List.zipWith (fun p q => p + (v - 3) * q) a b) := by
  refine ⟨by rw [List.length_zipWith, hr.len a ha, hr.len b hb, Nat.min_self], fun p hp => ?_⟩
  obtain ⟨x, y, hx, hy, rfl⟩ : ∃ x y, x ∈ a ∧ y ∈ b ∧ p = x + (v - 3) * y := by
    rw [← zip_zipWith (fun p q => p + (v - 3) * q), List.mem_map] at hp
    obtain ⟨z, hz, e⟩ := hp
    exact ⟨z.1, z.2, (List.of_mem_zip hz).1, (List.of_mem_zip hz).2, e.symm⟩
  have h1 := hr.sm a ha x hx
  have h2 := hr.sm b hb y hy
  have h3 : ((v - 3) * y).natAbs ≤ 3 * y.natAbs := by
    rw [Int.natAbs_mul]
    exact Nat.mul_le_mul_right _ (by omega)
  rw [Bd_succ]
  omega
theorem w_k1 {a b : List Int} {v : Int} (ha : Sm 500 b) (hv : v.natAbs < 2 ^ 500) (hl : a.length ≤ 1000) {C : Calls} {e0 e1 : Option W} : evE C k1__law_rows [e0, e1, a2, a5, a6, a7, a8, some (.d (dR a)), some (.d (dR b)), some (.d (.int v)), a10, a11] S = .ret (.d (dR (List.zipWith (fun p q => p + v * q) a b)), S) := by
  have q := ev_of (C := C) (m := false) (chk := false) (pt := .cons (.name 10) (.cons (.name 11) .nil)) (k := .zip) (src := .cons (.var 7) (.cons (.var 8) .nil)) (cond := .dat (.bl true)) (elt := .bin .add (.var 10) (.bin .mul (.var 9) (.var 11))) (env := [e0, e1, a2, a5, a6, a7, a8, some (.d (dR a)), some (.d (dR b)), some (.d (.int v)), a10, a11]) (S := S) (S1 := S) (ws := [.d (dR a), .d (dR b)]) (ds := [dR a, dR b])
    (a.zip b) (fun p => .tup [.int p.1, .int p.2]) (fun p => some (D.int (p.1 + v * p.2))) (by simp only [exB, evE, evL, tstE, M.bnd, opt_some, bnd_ret, opt_bnd, mapO, List.length_cons, List.length_nil, List.map_cons, List.map_nil, List.replicate, List.getElem?_cons_zero, List.getElem?_cons_succ, List.cons_append, List.nil_append, if_true, if_false, Bool.false_eq_true, Nat.sub_self, Bool.true_and, Bool.and_true, Bool.false_and, Bool.and_false, Bool.not_true, Bool.not_false, Bool.or_false, Bool.false_or, Bool.true_or, Bool.or_true, decide_true, decide_false, Option.map_some, permD, setW, List.set_cons_zero, List.set_cons_succ, bindP, bindPs, v_rd, v_dat, v_non, v_bl, v_int, v_lst, v_tup, v_str, v_add, v_sub, v_mul, v_fdiv, v_mod, v_cat, v_app, v_neg, v_lt, v_le, v_gt, v_ge, v_eq, v_isN, v_notN, v_in, v_nin, v_inS, v_eqI, v_eqS, v_neI, v_neS, v_lenS, v_lenL, v_lenT, v_repr, v_intI, v_intB, v_abs, v_ty_int_non, v_ty_int_bl, v_ty_int_int, v_ty_int_str, v_ty_int_lst, v_ty_int_tup, v_ty_int_dct, v_ty_bool_non, v_ty_bool_bl, v_ty_bool_int, v_ty_bool_str, v_ty_bool_lst, v_ty_bool_tup, v_ty_bool_dct, v_ty_str_non, v_ty_str_bl, v_ty_str_int, v_ty_str_str, v_ty_str_lst, v_ty_str_tup, v_ty_str_dct, v_ty_list_non, v_ty_list_bl, v_ty_list_int, v_ty_list_str, v_ty_list_lst, v_ty_list_tup, v_ty_list_dct, v_ty_tuple_non, v_ty_tuple_bl, v_ty_tuple_int, v_ty_tuple_str, v_ty_tuple_lst, v_ty_tuple_tup, v_ty_tuple_dct, v_ty_dict_non, v_ty_dict_bl, v_ty_dict_int, v_ty_dict_str, v_ty_dict_lst, v_ty_dict_tup, v_ty_dict_dct, v_isN_non, v_isN_int, v_isN_bl, v_isN_str, v_sliS, v_sliL, v_sliT, v_optN, v_optI, v_meT, v_join, v_walL, v_walT, v_walS, v_rng1, v_rng2, v_enum, v_zip, v_fewF, v_any1, v_any2, Nat.zero_add, Nat.reduceAdd, Nat.reduceLT, Nat.reduceLeDiff, Nat.reduceSub, Nat.reduceEqDiff, le_lim]) rfl (by show some (zipD _ _) = _; rw [zipD_map]) rfl (by rw [List.length_zip]; unfold lim; omega) fun p hp => by
      refine ⟨_, by simp only [exB, evE, evL, tstE, M.bnd, opt_some, bnd_ret, opt_bnd, mapO, List.length_cons, List.length_nil, List.map_cons, List.map_nil, List.replicate, List.getElem?_cons_zero, List.getElem?_cons_succ, List.cons_append, List.nil_append, if_true, if_false, Bool.false_eq_true, Nat.sub_self, Bool.true_and, Bool.and_true, Bool.false_and, Bool.and_false, Bool.not_true, Bool.not_false, Bool.or_false, Bool.false_or, Bool.true_or, Bool.or_true, decide_true, decide_false, Option.map_some, permD, setW, List.set_cons_zero, List.set_cons_succ, bindP, bindPs, v_rd, v_dat, v_non, v_bl, v_int, v_lst, v_tup, v_str, v_add, v_sub, v_mul, v_fdiv, v_mod, v_cat, v_app, v_neg, v_lt, v_le, v_gt, v_ge, v_eq, v_isN, v_notN, v_in, v_nin, v_inS, v_eqI, v_eqS, v_neI, v_neS, v_lenS, v_lenL, v_lenT, v_repr, v_intI, v_intB, v_abs, v_ty_int_non, v_ty_int_bl, v_ty_int_int, v_ty_int_str, v_ty_int_lst, v_ty_int_tup, v_ty_int_dct, v_ty_bool_non, v_ty_bool_bl, v_ty_bool_int, v_ty_bool_str, v_ty_bool_lst, v_ty_bool_tup, v_ty_bool_dct, v_ty_str_non, v_ty_str_bl, v_ty_str_int, v_ty_str_str, v_ty_str_lst, v_ty_str_tup, v_ty_str_dct, v_ty_list_non, v_ty_list_bl, v_ty_list_int, v_ty_list_str, v_ty_list_lst, v_ty_list_tup, v_ty_list_dct, v_ty_tuple_non, v_ty_tuple_bl, v_ty_tuple_int, v_ty_tuple_str, v_ty_tuple_lst, v_ty_tuple_tup, v_ty_tuple_dct, v_ty_dict_non, v_ty_dict_bl, v_ty_dict_int, v_ty_dict_str, v_ty_dict_lst, v_ty_dict_tup, v_ty_dict_dct, v_isN_non, v_isN_int, v_isN_bl, v_isN_str, v_sliS, v_sliL, v_sliT, v_optN, v_optI, v_meT, v_join, v_walL, v_walT, v_walS, v_rng1, v_rng2, v_enum, v_zip, v_fewF, v_any1, v_any2, Nat.zero_add, Nat.reduceAdd, Nat.reduceLT, Nat.reduceLeDiff, Nat.reduceSub, Nat.reduceEqDiff, le_lim]; rfl, el_yes ?_⟩
      simp only [exB, evE, evL, tstE, M.bnd, opt_some, bnd_ret, opt_bnd, mapO, List.length_cons, List.length_nil, List.map_cons, List.map_nil, List.replicate, List.getElem?_cons_zero, List.getElem?_cons_succ, List.cons_append, List.nil_append, if_true, if_false, Bool.false_eq_true, Nat.sub_self, Bool.true_and, Bool.and_true, Bool.false_and, Bool.and_false, Bool.not_true, Bool.not_false, Bool.or_false, Bool.false_or, Bool.true_or, Bool.or_true, decide_true, decide_false, Option.map_some, permD, setW, List.set_cons_zero, List.set_cons_succ, bindP, bindPs, v_rd, v_dat, v_non, v_bl, v_int, v_lst, v_tup, v_str, v_add, v_sub, v_mul, v_fdiv, v_mod, v_cat, v_app, v_neg, v_lt, v_le, v_gt, v_ge, v_eq, v_isN, v_notN, v_in, v_nin, v_inS, v_eqI, v_eqS, v_neI, v_neS, v_lenS, v_lenL, v_lenT, v_repr, v_intI, v_intB, v_abs, v_ty_int_non, v_ty_int_bl, v_ty_int_int, v_ty_int_str, v_ty_int_lst, v_ty_int_tup, v_ty_int_dct, v_ty_bool_non, v_ty_bool_bl, v_ty_bool_int, v_ty_bool_str, v_ty_bool_lst, v_ty_bool_tup, v_ty_bool_dct, v_ty_str_non, v_ty_str_bl, v_ty_str_int, v_ty_str_str, v_ty_str_lst, v_ty_str_tup, v_ty_str_dct, v_ty_list_non, v_ty_list_bl, v_ty_list_int, v_ty_list_str, v_ty_list_lst, v_ty_list_tup, v_ty_list_dct, v_ty_tuple_non, v_ty_tuple_bl, v_ty_tuple_int, v_ty_tuple_str, v_ty_tuple_lst, v_ty_tuple_tup, v_ty_tuple_dct, v_ty_dict_non, v_ty_dict_bl, v_ty_dict_int, v_ty_dict_str, v_ty_dict_lst, v_ty_dict_tup, v_ty_dict_dct, v_isN_non, v_isN_int, v_isN_bl, v_isN_str, v_sliS, v_sliL, v_sliT, v_optN, v_optI, v_meT, v_join, v_walL, v_walT, v_walS, v_rng1, v_rng2, v_enum, v_zip, v_fewF, v_any1, v_any2, Nat.zero_add, Nat.reduceAdd, Nat.reduceLT, Nat.reduceLeDiff, Nat.reduceSub, Nat.reduceEqDiff, le_lim, mulok hv (ha p.2 (List.of_mem_zip hp).2) (by decide) (by decide)]
  unfold k1__law_rows
  rw [q, fm_some]
  show M.ret (W.d (.lst ((a.zip b).map fun p => D.int (p.1 + v * p.2))), S) = _
  unfold dR
  rw [List.map_zipWith, zip_zipWith (fun p q => D.int (p + v * q))]
theorem Bd_pow {k : Nat} (hk : k ≤ 7) : Bd k < 2 ^ 120 := by
  have h : ∀ j, j ≤ 7 → Bd j < 2 ^ 120 := by decide +kernel
  exact h k hk
theorem w_s4 (hk : k ≤ 6) (hm : m ≤ 1000) (hr : Rws m k rows) (hrow : row.length = m) (hb : Le' (Bd 0) row) : Tri (run tbl.T (n + 1)) s4__law_rows [some (.d .pen), some (.d (.int m)), a2, some (.d (dR pool)), some (.r 0), some (.d (dR row)), a6, a7, a8, a9, a10, a11] [.lst (dRs rows)] (NX fun env' S' => S' = [.lst (dRs rows)] ∧ ∃ (row' : List Int) (a7 a8 a9 : Option W), env' = [some (.d .pen), some (.d (.int m)), a2, some (.d (dR pool)), some (.r 0), some (.d (dR row')), a6, a7, a8, a9, a10, a11] ∧ row'.length = m ∧ Le' (Bd (rows.length + 1)) row') NoE := by
  have hS : ([.lst (dRs rows)] : Sto)[0]? = some (.lst (dRs rows)) := rfl
  have few := hr.few
  have keep : Le' (Bd (rows.length + 1)) row := fun p hp => Nat.le_trans (hb p hp) (Bd_0 _)
  constructor
  unfold s4__law_rows
  rw [exB, M.wp_bnd]
  refine M.wp_mono _ (Q := fun a => a.2 = [.lst (dRs rows)] ∧ (a.1 = true → rows ≠ [])) ?_ (fun a ha => ?_) fun _ _ q => q
  · cases hrs : rows with
    | nil =>
      refine wp_of_eq (a := (false, [.lst (dRs [])])) ?_ ⟨rfl, fun h => by cases h⟩
      have e : eqD (.lst (dRs [])) (.lst []) = some true := eqM_nil []
      have h0 : ([Ob.lst (dRs [])] : Sto)[0]? = some (.lst (dRs [])) := rfl
      simp only [x1__law_rows, exB, evE, evL, tstE, M.bnd, opt_some, bnd_ret, opt_bnd, mapO, List.length_cons, List.length_nil, List.map_cons, List.map_nil, List.replicate, List.getElem?_cons_zero, List.getElem?_cons_succ, List.cons_append, List.nil_append, if_true, if_false, Bool.false_eq_true, Nat.sub_self, Bool.true_and, Bool.and_true, Bool.false_and, Bool.and_false, Bool.not_true, Bool.not_false, Bool.or_false, Bool.false_or, Bool.true_or, Bool.or_true, decide_true, decide_false, Option.map_some, permD, setW, List.set_cons_zero, List.set_cons_succ, bindP, bindPs, v_rd, v_dat, v_non, v_bl, v_int, v_lst, v_tup, v_str, v_add, v_sub, v_mul, v_fdiv, v_mod, v_cat, v_app, v_neg, v_lt, v_le, v_gt, v_ge, v_eq, v_isN, v_notN, v_in, v_nin, v_inS, v_eqI, v_eqS, v_neI, v_neS, v_lenS, v_lenL, v_lenT, v_repr, v_intI, v_intB, v_abs, v_ty_int_non, v_ty_int_bl, v_ty_int_int, v_ty_int_str, v_ty_int_lst, v_ty_int_tup, v_ty_int_dct, v_ty_bool_non, v_ty_bool_bl, v_ty_bool_int, v_ty_bool_str, v_ty_bool_lst, v_ty_bool_tup, v_ty_bool_dct, v_ty_str_non, v_ty_str_bl, v_ty_str_int, v_ty_str_str, v_ty_str_lst, v_ty_str_tup, v_ty_str_dct, v_ty_list_non, v_ty_list_bl, v_ty_list_int, v_ty_list_str, v_ty_list_lst, v_ty_list_tup, v_ty_list_dct, v_ty_tuple_non, v_ty_tuple_bl, v_ty_tuple_int, v_ty_tuple_str, v_ty_tuple_lst, v_ty_tuple_tup, v_ty_tuple_dct, v_ty_dict_non, v_ty_dict_bl, v_ty_dict_int, v_ty_dict_str, v_ty_dict_lst, v_ty_dict_tup, v_ty_dict_dct, v_isN_non, v_isN_int, v_isN_bl, v_isN_str, v_sliS, v_sliL, v_sliT, v_optN, v_optI, v_meT, v_join, v_walL, v_walT, v_walS, v_rng1, v_rng2, v_enum, v_zip, v_fewF, v_any1, v_any2, Nat.zero_add, Nat.reduceAdd, Nat.reduceLT, Nat.reduceLeDiff, Nat.reduceSub, Nat.reduceEqDiff, le_lim, rd_r h0, v_neL, e]
    | cons r0 rs =>
      rw [← hrs]
      have hne : rows ≠ [] := by rw [hrs]; exact List.cons_ne_nil _ _
      have e : eqD (.lst (dRs rows)) (.lst []) = some false := by rw [eqM_nil, hrs]; rfl
      simp only [x1__law_rows, exB, evE, evL, tstE, M.bnd, opt_some, bnd_ret, opt_bnd, mapO, List.length_cons, List.length_nil, List.map_cons, List.map_nil, List.replicate, List.getElem?_cons_zero, List.getElem?_cons_succ, List.cons_append, List.nil_append, if_true, if_false, Bool.false_eq_true, Nat.sub_self, Bool.true_and, Bool.and_true, Bool.false_and, Bool.and_false, Bool.not_true, Bool.not_false, Bool.or_false, Bool.false_or, Bool.true_or, Bool.or_true, decide_true, decide_false, Option.map_some, permD, setW, List.set_cons_zero, List.set_cons_succ, bindP, bindPs, v_rd, v_dat, v_non, v_bl, v_int, v_lst, v_tup, v_str, v_add, v_sub, v_mul, v_fdiv, v_mod, v_cat, v_app, v_neg, v_lt, v_le, v_gt, v_ge, v_eq, v_isN, v_notN, v_in, v_nin, v_inS, v_eqI, v_eqS, v_neI, v_neS, v_lenS, v_lenL, v_lenT, v_repr, v_intI, v_intB, v_abs, v_ty_int_non, v_ty_int_bl, v_ty_int_int, v_ty_int_str, v_ty_int_lst, v_ty_int_tup, v_ty_int_dct, v_ty_bool_non, v_ty_bool_bl, v_ty_bool_int, v_ty_bool_str, v_ty_bool_lst, v_ty_bool_tup, v_ty_bool_dct, v_ty_str_non, v_ty_str_bl, v_ty_str_int, v_ty_str_str, v_ty_str_lst, v_ty_str_tup, v_ty_str_dct, v_ty_list_non, v_ty_list_bl, v_ty_list_int, v_ty_list_str, v_ty_list_lst, v_ty_list_tup, v_ty_list_dct, v_ty_tuple_non, v_ty_tuple_bl, v_ty_tuple_int, v_ty_tuple_str, v_ty_tuple_lst, v_ty_tuple_tup, v_ty_tuple_dct, v_ty_dict_non, v_ty_dict_bl, v_ty_dict_int, v_ty_dict_str, v_ty_dict_lst, v_ty_dict_tup, v_ty_dict_dct, v_isN_non, v_isN_int, v_isN_bl, v_isN_str, v_sliS, v_sliL, v_sliT, v_optN, v_optI, v_meT, v_join, v_walL, v_walT, v_walS, v_rng1, v_rng2, v_enum, v_zip, v_fewF, v_any1, v_any2, Nat.zero_add, Nat.reduceAdd, Nat.reduceLT, Nat.reduceLeDiff, Nat.reduceSub, Nat.reduceEqDiff, le_lim, rd_r hS, v_neL, e]
      refine wp_draw (by decide) (by decide) fun v v0 v1 => ?_
      exact ⟨rfl, fun _ => hne⟩
  · obtain ⟨tt, S'⟩ := a
    obtain ⟨h1, h2⟩ := ha
    have h1 : S' = [.lst (dRs rows)] := h1
    subst h1
    cases tt with
    | false =>
      show (exB (run tbl.T (n + 1)) .nil [some (.d .pen), some (.d (.int m)), a2, some (.d (dR pool)), some (.r 0), some (.d (dR row)), a6, a7, a8, a9, a10, a11] [.lst (dRs rows)]).wp _ _
      rw [sq0]
      exact ⟨rfl, rfl, row, a7, a8, a9, rfl, hrow, keep⟩
    | true =>
      have hne := h2 rfl
      have hd0 : 0 < (dRs rows).length := by rw [dRs_len]; exact List.length_pos_iff.mpr hne
      have hd1 : (dRs rows).length ≤ 1000 := by rw [dRs_len]; omega
      simp only [if_true, y0__law_rows, s2__law_rows, x2__law_rows, s3__law_rows, exB, evE, evL, tstE, M.bnd, opt_some, bnd_ret, opt_bnd, mapO, List.length_cons, List.length_nil, List.map_cons, List.map_nil, List.replicate, List.getElem?_cons_zero, List.getElem?_cons_succ, List.cons_append, List.nil_append, if_true, if_false, Bool.false_eq_true, Nat.sub_self, Bool.true_and, Bool.and_true, Bool.false_and, Bool.and_false, Bool.not_true, Bool.not_false, Bool.or_false, Bool.false_or, Bool.true_or, Bool.or_true, decide_true, decide_false, Option.map_some, permD, setW, List.set_cons_zero, List.set_cons_succ, bindP, bindPs, v_rd, v_dat, v_non, v_bl, v_int, v_lst, v_tup, v_str, v_add, v_sub, v_mul, v_fdiv, v_mod, v_cat, v_app, v_neg, v_lt, v_le, v_gt, v_ge, v_eq, v_isN, v_notN, v_in, v_nin, v_inS, v_eqI, v_eqS, v_neI, v_neS, v_lenS, v_lenL, v_lenT, v_repr, v_intI, v_intB, v_abs, v_ty_int_non, v_ty_int_bl, v_ty_int_int, v_ty_int_str, v_ty_int_lst, v_ty_int_tup, v_ty_int_dct, v_ty_bool_non, v_ty_bool_bl, v_ty_bool_int, v_ty_bool_str, v_ty_bool_lst, v_ty_bool_tup, v_ty_bool_dct, v_ty_str_non, v_ty_str_bl, v_ty_str_int, v_ty_str_str, v_ty_str_lst, v_ty_str_tup, v_ty_str_dct, v_ty_list_non, v_ty_list_bl, v_ty_list_int, v_ty_list_str, v_ty_list_lst, v_ty_list_tup, v_ty_list_dct, v_ty_tuple_non, v_ty_tuple_bl, v_ty_tuple_int, v_ty_tuple_str, v_ty_tuple_lst, v_ty_tuple_tup, v_ty_tuple_dct, v_ty_dict_non, v_ty_dict_bl, v_ty_dict_int, v_ty_dict_str, v_ty_dict_lst, v_ty_dict_tup, v_ty_dict_dct, v_isN_non, v_isN_int, v_isN_bl, v_isN_str, v_sliS, v_sliL, v_sliT, v_optN, v_optI, v_meT, v_join, v_walL, v_walT, v_walS, v_rng1, v_rng2, v_enum, v_zip, v_fewF, v_any1, v_any2, Nat.zero_add, Nat.reduceAdd, Nat.reduceLT, Nat.reduceLeDiff, Nat.reduceSub, Nat.reduceEqDiff, le_lim, r_pickR n hS]
      refine wp_dL rfl hd0 hd1 fun d hd => ?_
      obtain ⟨a, ha, rfl⟩ := List.mem_map.mp hd
      refine wp_dL rfl hd0 hd1 fun d2 hd2 => ?_
      obtain ⟨b, hbm, rfl⟩ := List.mem_map.mp hd2
      refine wp_draw (by decide) (by decide) fun u u0 u1 => ?_
      obtain ⟨c1, c2⟩ := combine hr ha hbm u0 u1
      have sb : Sm 500 b := fun p hp => Nat.lt_of_le_of_lt (hr.sm b hbm p hp) (Nat.lt_trans (Bd_pow (by omega)) (Nat.pow_lt_pow_right (by decide) (by decide)))
      have su : (u - 3).natAbs < 2 ^ 500 := Nat.lt_trans (show (u - 3).natAbs < 2 ^ 3 by omega) (Nat.pow_lt_pow_right (by decide) (by decide))
      simp only [exB, evE, evL, tstE, M.bnd, opt_some, bnd_ret, opt_bnd, mapO, List.length_cons, List.length_nil, List.map_cons, List.map_nil, List.replicate, List.getElem?_cons_zero, List.getElem?_cons_succ, List.cons_append, List.nil_append, if_true, if_false, Bool.false_eq_true, Nat.sub_self, Bool.true_and, Bool.and_true, Bool.false_and, Bool.and_false, Bool.not_true, Bool.not_false, Bool.or_false, Bool.false_or, Bool.true_or, Bool.or_true, decide_true, decide_false, Option.map_some, permD, setW, List.set_cons_zero, List.set_cons_succ, bindP, bindPs, v_rd, v_dat, v_non, v_bl, v_int, v_lst, v_tup, v_str, v_add, v_sub, v_mul, v_fdiv, v_mod, v_cat, v_app, v_neg, v_lt, v_le, v_gt, v_ge, v_eq, v_isN, v_notN, v_in, v_nin, v_inS, v_eqI, v_eqS, v_neI, v_neS, v_lenS, v_lenL, v_lenT, v_repr, v_intI, v_intB, v_abs, v_ty_int_non, v_ty_int_bl, v_ty_int_int, v_ty_int_str, v_ty_int_lst, v_ty_int_tup, v_ty_int_dct, v_ty_bool_non, v_ty_bool_bl, v_ty_bool_int, v_ty_bool_str, v_ty_bool_lst, v_ty_bool_tup, v_ty_bool_dct, v_ty_str_non, v_ty_str_bl, v_ty_str_int, v_ty_str_str, v_ty_str_lst, v_ty_str_tup, v_ty_str_dct, v_ty_list_non, v_ty_list_bl, v_ty_list_int, v_ty_list_str, v_ty_list_lst, v_ty_list_tup, v_ty_list_dct, v_ty_tuple_non, v_ty_tuple_bl, v_ty_tuple_int, v_ty_tuple_str, v_ty_tuple_lst, v_ty_tuple_tup, v_ty_tuple_dct, v_ty_dict_non, v_ty_dict_bl, v_ty_dict_int, v_ty_dict_str, v_ty_dict_lst, v_ty_dict_tup, v_ty_dict_dct, v_isN_non, v_isN_int, v_isN_bl, v_isN_str, v_sliS, v_sliL, v_sliT, v_optN, v_optI, v_meT, v_join, v_walL, v_walT, v_walS, v_rng1, v_rng2, v_enum, v_zip, v_fewF, v_any1, v_any2, Nat.zero_add, Nat.reduceAdd, Nat.reduceLT, Nat.reduceLeDiff, Nat.reduceSub, Nat.reduceEqDiff, le_lim, w_k1 sb su (show a.length ≤ 1000 by rw [hr.len a ha]; exact hm)]
      exact ⟨rfl, rfl, _, _, _, _, rfl, c1, c2⟩
end
section
variable {n m k : Nat} {row : List Int} {rows : BA.Rows} {a2 a6 a7 a8 a9 a10 a11 e3 : Option W}
theorem w_s5 {C : Calls} (hl : rows.length ≤ 1000) : exB C s5__law_rows [some (.d .pen), some (.d (.int m)), a2, e3, some (.r 0), some (.d (dR row)), a6, a7, a8, a9, a10, a11] [.lst (dRs rows)] = .ret (.nx, [some (.d .pen), some (.d (.int m)), a2, e3, some (.r 0), some (.d (dR row)), a6, a7, a8, a9, a10, a11], [.lst (dRs (rows ++ [row]))]) := by
  have h0 : ([Ob.lst (dRs rows)] : Sto)[0]? = some (.lst (dRs rows)) := rfl
  have lt : (dRs rows).length < lim := by rw [dRs_len]; unfold lim; omega
  have e : dRs rows ++ [dR row] = dRs (rows ++ [row]) := by simp [dRs]
  simp only [s5__law_rows, exB, evE, evL, tstE, M.bnd, opt_some, bnd_ret, opt_bnd, mapO, List.length_cons, List.length_nil, List.map_cons, List.map_nil, List.replicate, List.getElem?_cons_zero, List.getElem?_cons_succ, List.cons_append, List.nil_append, if_true, if_false, Bool.false_eq_true, Nat.sub_self, Bool.true_and, Bool.and_true, Bool.false_and, Bool.and_false, Bool.not_true, Bool.not_false, Bool.or_false, Bool.false_or, Bool.true_or, Bool.or_true, decide_true, decide_false, Option.map_some, permD, setW, List.set_cons_zero, List.set_cons_succ, bindP, bindPs, v_rd, v_dat, v_non, v_bl, v_int, v_lst, v_tup, v_str, v_add, v_sub, v_mul, v_fdiv, v_mod, v_cat, v_app, v_neg, v_lt, v_le, v_gt, v_ge, v_eq, v_isN, v_notN, v_in, v_nin, v_inS, v_eqI, v_eqS, v_neI, v_neS, v_lenS, v_lenL, v_lenT, v_repr, v_intI, v_intB, v_abs, v_ty_int_non, v_ty_int_bl, v_ty_int_int, v_ty_int_str, v_ty_int_lst, v_ty_int_tup, v_ty_int_dct, v_ty_bool_non, v_ty_bool_bl, v_ty_bool_int, v_ty_bool_str, v_ty_bool_lst, v_ty_bool_tup, v_ty_bool_dct, v_ty_str_non, v_ty_str_bl, v_ty_str_int, v_ty_str_str, v_ty_str_lst, v_ty_str_tup, v_ty_str_dct, v_ty_list_non, v_ty_list_bl, v_ty_list_int, v_ty_list_str, v_ty_list_lst, v_ty_list_tup, v_ty_list_dct, v_ty_tuple_non, v_ty_tuple_bl, v_ty_tuple_int, v_ty_tuple_str, v_ty_tuple_lst, v_ty_tuple_tup, v_ty_tuple_dct, v_ty_dict_non, v_ty_dict_bl, v_ty_dict_int, v_ty_dict_str, v_ty_dict_lst, v_ty_dict_tup, v_ty_dict_dct, v_isN_non, v_isN_int, v_isN_bl, v_isN_str, v_sliS, v_sliL, v_sliT, v_optN, v_optI, v_meT, v_join, v_walL, v_walT, v_walS, v_rng1, v_rng2, v_enum, v_zip, v_fewF, v_any1, v_any2, Nat.zero_add, Nat.reduceAdd, Nat.reduceLT, Nat.reduceLeDiff, Nat.reduceSub, Nat.reduceEqDiff, le_lim, h0, lt, e]
theorem Rws.add (hr : Rws m k rows) (h1 : row.length = m) (h2 : Le' (Bd (rows.length + 1)) row) : Rws m (k + 1) (rows ++ [row]) := by
  have few := hr.few
  refine ⟨by simp; omega, fun r h => ?_, fun r h => ?_⟩
  · rcases List.mem_append.mp h with h | h
    · exact hr.len r h
    · rw [List.mem_singleton.mp h]; exact h1
  · rw [List.length_append, List.length_singleton]
    rcases List.mem_append.mp h with h | h
    · exact fun p hp => Nat.le_trans (hr.sm r h p hp) (Bd_le _)
    · rw [List.mem_singleton.mp h]; exact h2
theorem w_turn (hk : k ≤ 6) (hm : m ≤ 1000) {env : EnvD} {S : Sto} (hJ : JR m k env S) {d : D} : ∃ env', bindP (.name 2) d env = some env' ∧ Tri (run tbl.T (n + 1)) y1__law_rows env' S (NX (JR m (k + 1))) NoE := by
  obtain ⟨hp, hpl, hb, hr⟩ := hJ
  refine ⟨_, by simp only [exB, evE, evL, tstE, M.bnd, opt_some, bnd_ret, opt_bnd, mapO, List.length_cons, List.length_nil, List.map_cons, List.map_nil, List.replicate, List.getElem?_cons_zero, List.getElem?_cons_succ, List.cons_append, List.nil_append, if_true, if_false, Bool.false_eq_true, Nat.sub_self, Bool.true_and, Bool.and_true, Bool.false_and, Bool.and_false, Bool.not_true, Bool.not_false, Bool.or_false, Bool.false_or, Bool.true_or, Bool.or_true, decide_true, decide_false, Option.map_some, permD, setW, List.set_cons_zero, List.set_cons_succ, bindP, bindPs, v_rd, v_dat, v_non, v_bl, v_int, v_lst, v_tup, v_str, v_add, v_sub, v_mul, v_fdiv, v_mod, v_cat, v_app, v_neg, v_lt, v_le, v_gt, v_ge, v_eq, v_isN, v_notN, v_in, v_nin, v_inS, v_eqI, v_eqS, v_neI, v_neS, v_lenS, v_lenL, v_lenT, v_repr, v_intI, v_intB, v_abs, v_ty_int_non, v_ty_int_bl, v_ty_int_int, v_ty_int_str, v_ty_int_lst, v_ty_int_tup, v_ty_int_dct, v_ty_bool_non, v_ty_bool_bl, v_ty_bool_int, v_ty_bool_str, v_ty_bool_lst, v_ty_bool_tup, v_ty_bool_dct, v_ty_str_non, v_ty_str_bl, v_ty_str_int, v_ty_str_str, v_ty_str_lst, v_ty_str_tup, v_ty_str_dct, v_ty_list_non, v_ty_list_bl, v_ty_list_int, v_ty_list_str, v_ty_list_lst, v_ty_list_tup, v_ty_list_dct, v_ty_tuple_non, v_ty_tuple_bl, v_ty_tuple_int, v_ty_tuple_str, v_ty_tuple_lst, v_ty_tuple_tup, v_ty_tuple_dct, v_ty_dict_non, v_ty_dict_bl, v_ty_dict_int, v_ty_dict_str, v_ty_dict_lst, v_ty_dict_tup, v_ty_dict_dct, v_isN_non, v_isN_int, v_isN_bl, v_isN_str, v_sliS, v_sliL, v_sliT, v_optN, v_optI, v_meT, v_join, v_walL, v_walT, v_walS, v_rng1, v_rng2, v_enum, v_zip, v_fewF, v_any1, v_any2, Nat.zero_add, Nat.reduceAdd, Nat.reduceLT, Nat.reduceLeDiff, Nat.reduceSub, Nat.reduceEqDiff, le_lim]; rfl, ?_⟩
  unfold y1__law_rows
  refine Tri.seq _ (w_s1 hm hp hpl hb) ?_
  rintro _ _ ⟨rfl, row, rfl, h1, h2⟩
  refine Tri.seq _ (w_s4 hk hm hr h1 h2) ?_
  rintro _ _ ⟨rfl, row', b7, b8, b9, rfl, h3, h4⟩
  have few := hr.few
  exact Tri.seqR (w_s5 (by omega)) (Tri.nil (.mk hp hpl hb (hr.add h3 h4)))
theorem w_s0 : Tri (run tbl.T (n + 1)) s0__law_rows [some (.d .pen), some (.d (.int m)), none, none, none, none, none, none, none, none, none, none] [] (NX (JR m 0)) NoE := by
  have p30 : binD .pow (.int 10) (.int 30) = some (.int (10 ^ 30)) := by
    rw [v_pow, if_pos (.inl ⟨by decide, by decide, by decide⟩)]
    rfl
  constructor
  simp only [s0__law_rows, x0__law_rows, stoXs, stoX, exB, evE, evL, tstE, M.bnd, opt_some, bnd_ret, opt_bnd, mapO, List.length_cons, List.length_nil, List.map_cons, List.map_nil, List.replicate, List.getElem?_cons_zero, List.getElem?_cons_succ, List.cons_append, List.nil_append, if_true, if_false, Bool.false_eq_true, Nat.sub_self, Bool.true_and, Bool.and_true, Bool.false_and, Bool.and_false, Bool.not_true, Bool.not_false, Bool.or_false, Bool.false_or, Bool.true_or, Bool.or_true, decide_true, decide_false, Option.map_some, permD, setW, List.set_cons_zero, List.set_cons_succ, bindP, bindPs, v_rd, v_dat, v_non, v_bl, v_int, v_lst, v_tup, v_str, v_add, v_sub, v_mul, v_fdiv, v_mod, v_cat, v_app, v_neg, v_lt, v_le, v_gt, v_ge, v_eq, v_isN, v_notN, v_in, v_nin, v_inS, v_eqI, v_eqS, v_neI, v_neS, v_lenS, v_lenL, v_lenT, v_repr, v_intI, v_intB, v_abs, v_ty_int_non, v_ty_int_bl, v_ty_int_int, v_ty_int_str, v_ty_int_lst, v_ty_int_tup, v_ty_int_dct, v_ty_bool_non, v_ty_bool_bl, v_ty_bool_int, v_ty_bool_str, v_ty_bool_lst, v_ty_bool_tup, v_ty_bool_dct, v_ty_str_non, v_ty_str_bl, v_ty_str_int, v_ty_str_str, v_ty_str_lst, v_ty_str_tup, v_ty_str_dct, v_ty_list_non, v_ty_list_bl, v_ty_list_int, v_ty_list_str, v_ty_list_lst, v_ty_list_tup, v_ty_list_dct, v_ty_tuple_non, v_ty_tuple_bl, v_ty_tuple_int, v_ty_tuple_str, v_ty_tuple_lst, v_ty_tuple_tup, v_ty_tuple_dct, v_ty_dict_non, v_ty_dict_bl, v_ty_dict_int, v_ty_dict_str, v_ty_dict_lst, v_ty_dict_tup, v_ty_dict_dct, v_isN_non, v_isN_int, v_isN_bl, v_isN_str, v_sliS, v_sliL, v_sliT, v_optN, v_optI, v_meT, v_join, v_walL, v_walT, v_walS, v_rng1, v_rng2, v_enum, v_zip, v_fewF, v_any1, v_any2, Nat.zero_add, Nat.reduceAdd, Nat.reduceLT, Nat.reduceLeDiff, Nat.reduceSub, Nat.reduceEqDiff, le_lim, r_pickL, p30]
  refine wp_dL rfl (by simp) (by simp) fun d hd => ?_
  have key : ∃ pool : List Int, d = dR pool ∧ pool ≠ [] ∧ pool.length ≤ 1000 ∧ Le' (Bd 0) pool := by
    simp only [List.mem_cons, List.not_mem_nil, or_false] at hd
    rcases hd with e | e | e | e
    · exact ⟨[-1, 0, 1], e, by simp, by simp, by unfold Le'; decide +kernel⟩
    · exact ⟨[-5, 0, 0, 2, 3], e, by simp, by simp, by unfold Le'; decide +kernel⟩
    · exact ⟨[10 ^ 30, -10 ^ 30 + 1, 0, 7], e, by simp, by simp, by unfold Le'; decide +kernel⟩
    · exact ⟨[0, 0, 0, 4], e, by simp, by simp, by unfold Le'; decide +kernel⟩
  obtain ⟨pool, rfl, h1, h2, h3⟩ := key
  exact ⟨rfl, .mk (rows := []) h1 h2 h3 ⟨Nat.le_refl _, fun r hr => (by cases hr), fun r hr => (by cases hr)⟩⟩
theorem w_s6 (hm : m ≤ 1000) {env : EnvD} {S : Sto} (hJ : JR m 0 env S) : Tri (run tbl.T (n + 1)) s6__law_rows env S (NX fun env S => ∃ k, k ≤ 6 ∧ JR m k env S) NoE := by
  have hJ0 := hJ
  obtain ⟨hp, hpl, hb, hr⟩ := hJ
  unfold s6__law_rows
  refine Tri.forrD (fun ws => ∃ v : Int, 0 ≤ v ∧ v < 7 ∧ ws = [.d (.int v)]) ?_ ?_
  · simp only [exB, evE, evL, tstE, M.bnd, opt_some, bnd_ret, opt_bnd, mapO, List.length_cons, List.length_nil, List.map_cons, List.map_nil, List.replicate, List.getElem?_cons_zero, List.getElem?_cons_succ, List.cons_append, List.nil_append, if_true, if_false, Bool.false_eq_true, Nat.sub_self, Bool.true_and, Bool.and_true, Bool.false_and, Bool.and_false, Bool.not_true, Bool.not_false, Bool.or_false, Bool.false_or, Bool.true_or, Bool.or_true, decide_true, decide_false, Option.map_some, permD, setW, List.set_cons_zero, List.set_cons_succ, bindP, bindPs, v_rd, v_dat, v_non, v_bl, v_int, v_lst, v_tup, v_str, v_add, v_sub, v_mul, v_fdiv, v_mod, v_cat, v_app, v_neg, v_lt, v_le, v_gt, v_ge, v_eq, v_isN, v_notN, v_in, v_nin, v_inS, v_eqI, v_eqS, v_neI, v_neS, v_lenS, v_lenL, v_lenT, v_repr, v_intI, v_intB, v_abs, v_ty_int_non, v_ty_int_bl, v_ty_int_int, v_ty_int_str, v_ty_int_lst, v_ty_int_tup, v_ty_int_dct, v_ty_bool_non, v_ty_bool_bl, v_ty_bool_int, v_ty_bool_str, v_ty_bool_lst, v_ty_bool_tup, v_ty_bool_dct, v_ty_str_non, v_ty_str_bl, v_ty_str_int, v_ty_str_str, v_ty_str_lst, v_ty_str_tup, v_ty_str_dct, v_ty_list_non, v_ty_list_bl, v_ty_list_int, v_ty_list_str, v_ty_list_lst, v_ty_list_tup, v_ty_list_dct, v_ty_tuple_non, v_ty_tuple_bl, v_ty_tuple_int, v_ty_tuple_str, v_ty_tuple_lst, v_ty_tuple_tup, v_ty_tuple_dct, v_ty_dict_non, v_ty_dict_bl, v_ty_dict_int, v_ty_dict_str, v_ty_dict_lst, v_ty_dict_tup, v_ty_dict_dct, v_isN_non, v_isN_int, v_isN_bl, v_isN_str, v_sliS, v_sliL, v_sliT, v_optN, v_optI, v_meT, v_join, v_walL, v_walT, v_walS, v_rng1, v_rng2, v_enum, v_zip, v_fewF, v_any1, v_any2, Nat.zero_add, Nat.reduceAdd, Nat.reduceLT, Nat.reduceLeDiff, Nat.reduceSub, Nat.reduceEqDiff, le_lim]
    refine wp_draw (by decide) (by decide) fun v v0 v1 => ?_
    exact ⟨rfl, v, v0, v1, rfl⟩
  · rintro ws ⟨v, v0, v1, rfl⟩
    have e : v = ((v.toNat : Nat) : Int) := by omega
    have hl : (upD 0 v.toNat).length = v.toNat := by rw [show upD 0 v.toNat = (List.range' 0 v.toNat).map fun (i : Nat) => D.int (i : Int) from upD_map v.toNat 0]; simp
    refine ⟨[.int v], upD 0 v.toNat, rfl, ?_, ?_, ?_⟩
    · show (if small v then some (upD 0 v.toNat) else none) = _
      rw [if_pos (by unfold small; rw [Bool.and_eq_true, decide_eq_true_eq, decide_eq_true_eq]; omega)]
    · unfold fewD
      rw [hl]
      simp
      unfold lim
      omega
    · refine M.wp_mono _ (forL_invN (I := fun k env S => JR m k env S) (upD 0 v.toNat) 0 _ _ hJ0 fun i d hd env S hI => ?_) (fun r hr => ⟨hr.1, v.toNat, by omega, by have := hr.2; rw [hl, Nat.zero_add] at this; exact this⟩) fun _ _ q => q
      have hi := (List.getElem?_eq_some_iff.mp hd).1
      rw [hl] at hi
      obtain ⟨env', g1, g2⟩ := w_turn (n := n) (d := d) (by omega) hm hI
      exact ⟨env', g1, g2.run⟩
theorem r_rows' (hm : m ≤ 1000) : Tri (run tbl.T (n + 1)) b__law_rows [some (.d .pen), some (.d (.int m)), none, none, none, none, none, none, none, none, none, none] [] (fun r => ∃ d, r.1 = .rt (.d d) ∧ ∃ rows : BA.Rows, d = .lst (dRs rows) ∧ Rws m 6 rows) NoE := by
  unfold b__law_rows
  refine Tri.seq _ w_s0 ?_
  intro env S hJ
  refine Tri.seq _ (w_s6 hm hJ) ?_
  rintro env S ⟨k, hk, hp, hpl, hb, hr⟩
  rename_i pool rows _ _ _ _ _ _ _ _
  have h0 : ([Ob.lst (dRs rows)] : Sto)[0]? = some (.lst (dRs rows)) := rfl
  refine Tri.ret (w := .d (.lst (dRs rows))) (by simp only [s7__law_rows, exB, evE, evL, tstE, M.bnd, opt_some, bnd_ret, opt_bnd, mapO, List.length_cons, List.length_nil, List.map_cons, List.map_nil, List.replicate, List.getElem?_cons_zero, List.getElem?_cons_succ, List.cons_append, List.nil_append, if_true, if_false, Bool.false_eq_true, Nat.sub_self, Bool.true_and, Bool.and_true, Bool.false_and, Bool.and_false, Bool.not_true, Bool.not_false, Bool.or_false, Bool.false_or, Bool.true_or, Bool.or_true, decide_true, decide_false, Option.map_some, permD, setW, List.set_cons_zero, List.set_cons_succ, bindP, bindPs, v_rd, v_dat, v_non, v_bl, v_int, v_lst, v_tup, v_str, v_add, v_sub, v_mul, v_fdiv, v_mod, v_cat, v_app, v_neg, v_lt, v_le, v_gt, v_ge, v_eq, v_isN, v_notN, v_in, v_nin, v_inS, v_eqI, v_eqS, v_neI, v_neS, v_lenS, v_lenL, v_lenT, v_repr, v_intI, v_intB, v_abs, v_ty_int_non, v_ty_int_bl, v_ty_int_int, v_ty_int_str, v_ty_int_lst, v_ty_int_tup, v_ty_int_dct, v_ty_bool_non, v_ty_bool_bl, v_ty_bool_int, v_ty_bool_str, v_ty_bool_lst, v_ty_bool_tup, v_ty_bool_dct, v_ty_str_non, v_ty_str_bl, v_ty_str_int, v_ty_str_str, v_ty_str_lst, v_ty_str_tup, v_ty_str_dct, v_ty_list_non, v_ty_list_bl, v_ty_list_int, v_ty_list_str, v_ty_list_lst, v_ty_list_tup, v_ty_list_dct, v_ty_tuple_non, v_ty_tuple_bl, v_ty_tuple_int, v_ty_tuple_str, v_ty_tuple_lst, v_ty_tuple_tup, v_ty_tuple_dct, v_ty_dict_non, v_ty_dict_bl, v_ty_dict_int, v_ty_dict_str, v_ty_dict_lst, v_ty_dict_tup, v_ty_dict_dct, v_isN_non, v_isN_int, v_isN_bl, v_isN_str, v_sliS, v_sliL, v_sliT, v_optN, v_optI, v_meT, v_join, v_walL, v_walT, v_walS, v_rng1, v_rng2, v_enum, v_zip, v_fewF, v_any1, v_any2, Nat.zero_add, Nat.reduceAdd, Nat.reduceLT, Nat.reduceLeDiff, Nat.reduceSub, Nat.reduceEqDiff, le_lim, h0]; rfl) ⟨_, rfl, rows, rfl, ?_⟩
  exact ⟨Nat.le_trans hr.few hk, hr.len, hr.sm⟩
theorem r_rows (hm : m ≤ 1000) : Wp (dcall (run tbl.T (n + 2)) 10 [.pen, .int m]) (fun d => ∃ rows : BA.Rows, d = .lst (dRs rows) ∧ Rws m 6 rows) NoE :=
  fn_wp (g := ⟨2, 12, b__law_rows⟩) T10 rfl (r_rows' hm)
end
end RL.T
end

section
set_option Elab.async false
set_option linter.all false
set_option maxRecDepth 100000
set_option maxHeartbeats 400000
namespace RL.T
open PySem L2
/-! what is shown -/
theorem repr_some {d : D} {x : PyData} (h : d.py = some x) (h1 : d.okr = true) (h2 : d.sz ≤ lim) (h3 : d.dep ≤ 64) : ∃ s, reprD d = some (.str s) := by
  unfold reprD
  rw [h]
  refine ⟨x.shown.cps.toList, ?_⟩
  show (if d.okr && decide (d.sz ≤ lim) && decide (d.dep ≤ 64) then some (D.str x.shown.cps.toList) else none) = _
  rw [h1, decide_eq_true h2, decide_eq_true h3]
  rfl
theorem repr1 {a : Int} (ha : a.natAbs < 2 ^ 1000) : ∃ s, reprD (.int a) = some (.str s) := by
  have l := lg ha (by decide)
  refine repr_some (x := .int a) rfl ?_ ?_ ?_
  · show decide (a.natAbs.log2 < 1920) = true
    exact decide_eq_true (by omega)
  · show a.natAbs.log2 + 3 ≤ lim
    unfold lim
    omega
  · show 0 ≤ 64
    decide
theorem repr2 {a b : Int} (ha : a.natAbs < 2 ^ 1000) (hb : b.natAbs < 2 ^ 1000) : ∃ s, reprD (.lst [.int a, .int b]) = some (.str s) := by
  have l1 := lg ha (by decide)
  have l2 := lg hb (by decide)
  refine repr_some (x := .list [.int a, .int b]) rfl ?_ ?_ ?_
  · show (decide (a.natAbs.log2 < 1920) && (decide (b.natAbs.log2 < 1920) && true)) = true
    rw [decide_eq_true (by omega), decide_eq_true (by omega)]
    rfl
  · show (a.natAbs.log2 + 3 + 2 + (b.natAbs.log2 + 3 + 2 + 0)) + 3 ≤ lim
    unfold lim
    omega
  · show max 0 (max 0 0) + 1 ≤ 64
    decide
theorem v_rev {ds : List D} : revD (.lst ds) = some (.lst ds.reverse) := rfl
theorem dRs_rev (l : BA.Rows) : (dRs l).reverse = dRs l.reverse := by unfold dRs; rw [List.map_reverse]
theorem dot_comm (a b : List Int) : BA.dot a b = BA.dot b a := by
  unfold BA.dot
  congr 1
  rw [List.zipWith_comm]
  congr 1
  funext x y
  exact Int.mul_comm _ _
theorem dot_bound {k : Nat} : ∀ {a b : List Int}, Sm k a → Sm k b → (BA.dot a b).natAbs ≤ a.length * (2 ^ k * 2 ^ k)
  | [], b, _, _ => by simp [BA.dot]
  | x :: a, [], _, _ => by simp [BA.dot]
  | x :: a, y :: b, ha, hb => by
    have ih := dot_bound (a := a) (b := b) (fun p hp => ha p (List.mem_cons_of_mem _ hp)) fun p hp => hb p (List.mem_cons_of_mem _ hp)
    have h1 := ha x (List.mem_cons_self ..)
    have h2 := hb y (List.mem_cons_self ..)
    have h3 : (x * y).natAbs ≤ 2 ^ k * 2 ^ k := by
      rw [Int.natAbs_mul]
      exact Nat.mul_le_mul (Nat.le_of_lt h1) (Nat.le_of_lt h2)
    have e : BA.dot (x :: a) (y :: b) = x * y + BA.dot a b := by simp [BA.dot]
    rw [e, List.length_cons, Nat.succ_mul]
    omega
/-! the law's rows are let -/
theorem cell_le {r : List Int} {B : Nat} (h : Le' B r) (x : Nat) : (BA.cell r x).natAbs ≤ B := by
  by_cases hx : x < r.length
  · unfold BA.cell
    rw [BA.getD_at hx]
    exact h _ (List.getElem_mem _)
  · rw [BA.cell_ge (by omega)]
    exact Nat.zero_le _
theorem Bd_mono {i j : Nat} (h : i ≤ j) : Bd i ≤ Bd j := by
  induction j with
  | zero => rw [show i = 0 by omega]; exact Nat.le_refl _
  | succ j ih =>
    by_cases e : i = j + 1
    · rw [e]; exact Nat.le_refl _
    · exact Nat.le_trans (ih (by omega)) (Bd_le j)
theorem Bd_6 : 9 * (Bd 6 + 1) ≤ 2 ^ 116 := by decide +kernel
section
variable {m : Nat} {rows : BA.Rows}
theorem Rws.le (h : Rws m 6 rows) : ∀ r ∈ rows, Le' (Bd 6) r := fun r hr p hp => Nat.le_trans (h.sm r hr p hp) (Bd_mono h.few)
theorem good (h : Rws m 6 rows) (hm : m ≤ 7) : Good 813 m rows := by
  have few := h.few
  exact ⟨h.len, by omega, by omega, fun j => BA.fineS (b := 116) h.len (by omega) Bd_6 (fun r hr x => cell_le (h.le r hr) x) j, by decide, by decide⟩
theorem goodR (h : Rws m 6 rows) (hm : m ≤ 7) : GoodR 813 m rows := by
  have few := h.few
  exact ⟨h.len, by omega, by omega, fun j => BA.fineR (b := 116) h.len (by omega) Bd_6 (fun r hr x => cell_le (h.le r hr) x) j, by decide, by decide⟩
theorem Rws.rev (h : Rws m 6 rows) : Rws m 6 rows.reverse :=
  ⟨by rw [List.length_reverse]; exact h.few, fun r hr => h.len r (List.mem_reverse.mp hr), fun r hr => by rw [List.length_reverse]; exact h.sm r (List.mem_reverse.mp hr)⟩
theorem nts_sm (h : Rws m 6 rows) (hm : m ≤ 7) : ∀ t ∈ BA.nts rows m, Le' (2 ^ 813) t := fun t ht p hp => by
  have g := good h hm
  obtain ⟨f1, f2, f3⟩ := g.fine m
  obtain ⟨f, hf, rfl⟩ := List.mem_map.mp ht
  obtain ⟨q, hq, hle⟩ := BA.shr_small hp
  refine Nat.le_trans hle ?_
  unfold BA.toldF at hq
  rcases BA.putAll_in f hq with h | ⟨u, hu, rfl⟩
  · rcases List.mem_or_eq_of_mem_set h with h | h
    · rw [List.mem_replicate] at h
      rw [h.2]
      exact Nat.zero_le _
    · rw [h]
      exact Nat.le_of_lt f3
  · rw [Int.natAbs_neg]
    exact Nat.le_of_lt (f1 u (List.mem_of_mem_take hu) f)
theorem goodN (h : Rws m 6 rows) (hm : m ≤ 7) : GoodR 5720 m (BA.nts rows m) := by
  have c := BA.nts_count h.len
  refine ⟨BA.nts_len h.len, by omega, by omega, fun j => BA.fineR (b := 817) (B := 2 ^ 813) (BA.nts_len h.len) (by omega) ?_ (fun r hr x => cell_le (nts_sm h hm r hr) x) j, by decide, by decide⟩
  have e : (2 : Nat) ^ 817 = 2 ^ 813 * 16 := by rw [show 817 = 813 + 4 from rfl, Nat.pow_add]
  have p : 2 ^ 4 ≤ (2 : Nat) ^ 813 := Nat.pow_le_pow_right (by decide) (by decide)
  rw [e]
  omega
end
end RL.T
end

section
set_option Elab.async false
set_option linter.all false
set_option maxRecDepth 100000
set_option maxHeartbeats 400000
namespace RL.T
open PySem L2
section
variable {n m : Nat} {rows : BA.Rows} {S : Sto} {a3 a4 a5 a6 a7 a8 a9 a10 a11 a12 : Option W}
theorem ev_copy {C : Calls} {l : BA.Rows} {env : EnvD} (i : Nat) (hi : env[i]? = some (some (.d (.lst (dRs l))))) (h5 : 5 < env.length) (hl : l.length ≤ 1000) : evE C (.comp false false (.name 5) .val (.cons (.var i) (.nil)) (.dat (.bl true)) (.bi .list (.cons (.var 5) (.nil)))) env S = .ret (.d (.lst (dRs l)), S) := by
  have q := ev_of (C := C) (m := false) (chk := false) (pt := .name 5) (k := .val) (src := .cons (.var i) .nil) (cond := .dat (.bl true)) (elt := .bi .list (.cons (.var 5) (.nil))) (env := env) (S := S) (S1 := S) (ws := [.d (.lst (dRs l))]) (ds := [.lst (dRs l)]) l dR (fun r => some (dR r)) (by simp only [exB, evE, evL, tstE, M.bnd, opt_some, bnd_ret, opt_bnd, mapO, List.length_cons, List.length_nil, List.map_cons, List.map_nil, List.replicate, List.getElem?_cons_zero, List.getElem?_cons_succ, List.cons_append, List.nil_append, if_true, if_false, Bool.false_eq_true, Nat.sub_self, Bool.true_and, Bool.and_true, Bool.false_and, Bool.and_false, Bool.not_true, Bool.not_false, Bool.or_false, Bool.false_or, Bool.true_or, Bool.or_true, decide_true, decide_false, Option.map_some, permD, setW, List.set_cons_zero, List.set_cons_succ, bindP, bindPs, v_rd, v_dat, v_non, v_bl, v_int, v_lst, v_tup, v_str, v_add, v_sub, v_mul, v_fdiv, v_mod, v_cat, v_app, v_neg, v_lt, v_le, v_gt, v_ge, v_eq, v_isN, v_notN, v_in, v_nin, v_inS, v_eqI, v_eqS, v_neI, v_neS, v_lenS, v_lenL, v_lenT, v_repr, v_intI, v_intB, v_abs, v_ty_int_non, v_ty_int_bl, v_ty_int_int, v_ty_int_str, v_ty_int_lst, v_ty_int_tup, v_ty_int_dct, v_ty_bool_non, v_ty_bool_bl, v_ty_bool_int, v_ty_bool_str, v_ty_bool_lst, v_ty_bool_tup, v_ty_bool_dct, v_ty_str_non, v_ty_str_bl, v_ty_str_int, v_ty_str_str, v_ty_str_lst, v_ty_str_tup, v_ty_str_dct, v_ty_list_non, v_ty_list_bl, v_ty_list_int, v_ty_list_str, v_ty_list_lst, v_ty_list_tup, v_ty_list_dct, v_ty_tuple_non, v_ty_tuple_bl, v_ty_tuple_int, v_ty_tuple_str, v_ty_tuple_lst, v_ty_tuple_tup, v_ty_tuple_dct, v_ty_dict_non, v_ty_dict_bl, v_ty_dict_int, v_ty_dict_str, v_ty_dict_lst, v_ty_dict_tup, v_ty_dict_dct, v_isN_non, v_isN_int, v_isN_bl, v_isN_str, v_sliS, v_sliL, v_sliT, v_optN, v_optI, v_meT, v_join, v_walL, v_walT, v_walS, v_rng1, v_rng2, v_enum, v_zip, v_fewF, v_any1, v_any2, Nat.zero_add, Nat.reduceAdd, Nat.reduceLT, Nat.reduceLeDiff, Nat.reduceSub, Nat.reduceEqDiff, le_lim, hi]) rfl rfl rfl (by unfold lim; omega) fun p hp => by
    refine ⟨env.set 5 (some (.d (dR p))), if_pos h5, el_yes ?_⟩
    have e : biD .list [dR p] = some (dR p) := rfl
    have e2 : (env.set 5 (some (.d (dR p))))[5]? = some (some (.d (dR p))) := by simp [h5]
    simp only [exB, evE, evL, tstE, M.bnd, opt_some, bnd_ret, opt_bnd, mapO, List.length_cons, List.length_nil, List.map_cons, List.map_nil, List.replicate, List.getElem?_cons_zero, List.getElem?_cons_succ, List.cons_append, List.nil_append, if_true, if_false, Bool.false_eq_true, Nat.sub_self, Bool.true_and, Bool.and_true, Bool.false_and, Bool.and_false, Bool.not_true, Bool.not_false, Bool.or_false, Bool.false_or, Bool.true_or, Bool.or_true, decide_true, decide_false, Option.map_some, permD, setW, List.set_cons_zero, List.set_cons_succ, bindP, bindPs, v_rd, v_dat, v_non, v_bl, v_int, v_lst, v_tup, v_str, v_add, v_sub, v_mul, v_fdiv, v_mod, v_cat, v_app, v_neg, v_lt, v_le, v_gt, v_ge, v_eq, v_isN, v_notN, v_in, v_nin, v_inS, v_eqI, v_eqS, v_neI, v_neS, v_lenS, v_lenL, v_lenT, v_repr, v_intI, v_intB, v_abs, v_ty_int_non, v_ty_int_bl, v_ty_int_int, v_ty_int_str, v_ty_int_lst, v_ty_int_tup, v_ty_int_dct, v_ty_bool_non, v_ty_bool_bl, v_ty_bool_int, v_ty_bool_str, v_ty_bool_lst, v_ty_bool_tup, v_ty_bool_dct, v_ty_str_non, v_ty_str_bl, v_ty_str_int, v_ty_str_str, v_ty_str_lst, v_ty_str_tup, v_ty_str_dct, v_ty_list_non, v_ty_list_bl, v_ty_list_int, v_ty_list_str, v_ty_list_lst, v_ty_list_tup, v_ty_list_dct, v_ty_tuple_non, v_ty_tuple_bl, v_ty_tuple_int, v_ty_tuple_str, v_ty_tuple_lst, v_ty_tuple_tup, v_ty_tuple_dct, v_ty_dict_non, v_ty_dict_bl, v_ty_dict_int, v_ty_dict_str, v_ty_dict_lst, v_ty_dict_tup, v_ty_dict_dct, v_isN_non, v_isN_int, v_isN_bl, v_isN_str, v_sliS, v_sliL, v_sliT, v_optN, v_optI, v_meT, v_join, v_walL, v_walT, v_walS, v_rng1, v_rng2, v_enum, v_zip, v_fewF, v_any1, v_any2, Nat.zero_add, Nat.reduceAdd, Nat.reduceLT, Nat.reduceLeDiff, Nat.reduceSub, Nat.reduceEqDiff, le_lim, e, e2]
  rw [q, fm_some]
  rfl
theorem x_s2 (h : Rws m 6 rows) (hm : m ≤ 7) : exB (run tbl.T (n + 3)) s2__law_right [some (.d .pen), some (.d (.int m)), some (.d (.lst (dRs rows))), a3, a4, a5, a6, a7, a8, a9, a10, a11, a12] S = .ret (.nx, [some (.d .pen), some (.d (.int m)), some (.d (.lst (dRs rows))), a3, a4, a5, some (.d (.lst (dRs rows))), some (.d (.int ((BA.runR rows m).k : Nat))), a8, a9, a10, a11, a12], S) := by
  have few := h.few
  have q := r_lrank (n := n + 2) (goodR h hm)
  have q0 : evE (run tbl.T (n + 3)) k0__law_right [some (.d .pen), some (.d (.int m)), some (.d (.lst (dRs rows))), a3, a4, a5, a6, a7, a8, a9, a10, a11, a12] S = .ret (.d (.lst (dRs rows)), S) := ev_copy 2 rfl (by simp) (by omega)
  simp only [s2__law_right, x1__law_right, exB, evE, evL, tstE, M.bnd, opt_some, bnd_ret, opt_bnd, mapO, List.length_cons, List.length_nil, List.map_cons, List.map_nil, List.replicate, List.getElem?_cons_zero, List.getElem?_cons_succ, List.cons_append, List.nil_append, if_true, if_false, Bool.false_eq_true, Nat.sub_self, Bool.true_and, Bool.and_true, Bool.false_and, Bool.and_false, Bool.not_true, Bool.not_false, Bool.or_false, Bool.false_or, Bool.true_or, Bool.or_true, decide_true, decide_false, Option.map_some, permD, setW, List.set_cons_zero, List.set_cons_succ, bindP, bindPs, v_rd, v_dat, v_non, v_bl, v_int, v_lst, v_tup, v_str, v_add, v_sub, v_mul, v_fdiv, v_mod, v_cat, v_app, v_neg, v_lt, v_le, v_gt, v_ge, v_eq, v_isN, v_notN, v_in, v_nin, v_inS, v_eqI, v_eqS, v_neI, v_neS, v_lenS, v_lenL, v_lenT, v_repr, v_intI, v_intB, v_abs, v_ty_int_non, v_ty_int_bl, v_ty_int_int, v_ty_int_str, v_ty_int_lst, v_ty_int_tup, v_ty_int_dct, v_ty_bool_non, v_ty_bool_bl, v_ty_bool_int, v_ty_bool_str, v_ty_bool_lst, v_ty_bool_tup, v_ty_bool_dct, v_ty_str_non, v_ty_str_bl, v_ty_str_int, v_ty_str_str, v_ty_str_lst, v_ty_str_tup, v_ty_str_dct, v_ty_list_non, v_ty_list_bl, v_ty_list_int, v_ty_list_str, v_ty_list_lst, v_ty_list_tup, v_ty_list_dct, v_ty_tuple_non, v_ty_tuple_bl, v_ty_tuple_int, v_ty_tuple_str, v_ty_tuple_lst, v_ty_tuple_tup, v_ty_tuple_dct, v_ty_dict_non, v_ty_dict_bl, v_ty_dict_int, v_ty_dict_str, v_ty_dict_lst, v_ty_dict_tup, v_ty_dict_dct, v_isN_non, v_isN_int, v_isN_bl, v_isN_str, v_sliS, v_sliL, v_sliT, v_optN, v_optI, v_meT, v_join, v_walL, v_walT, v_walS, v_rng1, v_rng2, v_enum, v_zip, v_fewF, v_any1, v_any2, Nat.zero_add, Nat.reduceAdd, Nat.reduceLT, Nat.reduceLeDiff, Nat.reduceSub, Nat.reduceEqDiff, le_lim, q, q0]
theorem rank_sm (h : Rws m 6 rows) (hm : m ≤ 7) : (((BA.runS rows m).lds.length : Nat) : Int).natAbs < 2 ^ 1000 := by
  have c := BA.nts_count h.len
  have : (BA.runS rows m).lds.length < 2 ^ 4 := by omega
  rw [Int.natAbs_natCast]
  exact Nat.lt_trans this (Nat.pow_lt_pow_right (by decide) (by decide))
theorem x_s4 (h : Rws m 6 rows) (hm : m ≤ 7) : exB (run tbl.T (n + 3)) s4__law_right [some (.d .pen), some (.d (.int m)), some (.d (.lst (dRs rows))), a3, a4, a5, a6, some (.d (.int ((BA.runR rows m).k : Nat))), a8, a9, a10, a11, a12] S = .ret (.nx, [some (.d .pen), some (.d (.int m)), some (.d (.lst (dRs rows))), a3, a4, a5, a6, some (.d (.int ((BA.runR rows m).k : Nat))), a8, a9, a10, a11, a12], S) := by
  have q1 := r_rank (n := n) (good h hm)
  have q2 := r_rank (n := n) (good h.rev hm)
  rw [BA.runS_rev h.len] at q2
  obtain ⟨s, hs⟩ := repr2 (rank_sm h hm) (rank_sm h hm)
  rw [s4__law_right, ife_of (k := false) (by simp only [x2__law_right, exB, evE, evL, tstE, M.bnd, opt_some, bnd_ret, opt_bnd, mapO, List.length_cons, List.length_nil, List.map_cons, List.map_nil, List.replicate, List.getElem?_cons_zero, List.getElem?_cons_succ, List.cons_append, List.nil_append, if_true, if_false, Bool.false_eq_true, Nat.sub_self, Bool.true_and, Bool.and_true, Bool.false_and, Bool.and_false, Bool.not_true, Bool.not_false, Bool.or_false, Bool.false_or, Bool.true_or, Bool.or_true, decide_true, decide_false, Option.map_some, permD, setW, List.set_cons_zero, List.set_cons_succ, bindP, bindPs, v_rd, v_dat, v_non, v_bl, v_int, v_lst, v_tup, v_str, v_add, v_sub, v_mul, v_fdiv, v_mod, v_cat, v_app, v_neg, v_lt, v_le, v_gt, v_ge, v_eq, v_isN, v_notN, v_in, v_nin, v_inS, v_eqI, v_eqS, v_neI, v_neS, v_lenS, v_lenL, v_lenT, v_repr, v_intI, v_intB, v_abs, v_ty_int_non, v_ty_int_bl, v_ty_int_int, v_ty_int_str, v_ty_int_lst, v_ty_int_tup, v_ty_int_dct, v_ty_bool_non, v_ty_bool_bl, v_ty_bool_int, v_ty_bool_str, v_ty_bool_lst, v_ty_bool_tup, v_ty_bool_dct, v_ty_str_non, v_ty_str_bl, v_ty_str_int, v_ty_str_str, v_ty_str_lst, v_ty_str_tup, v_ty_str_dct, v_ty_list_non, v_ty_list_bl, v_ty_list_int, v_ty_list_str, v_ty_list_lst, v_ty_list_tup, v_ty_list_dct, v_ty_tuple_non, v_ty_tuple_bl, v_ty_tuple_int, v_ty_tuple_str, v_ty_tuple_lst, v_ty_tuple_tup, v_ty_tuple_dct, v_ty_dict_non, v_ty_dict_bl, v_ty_dict_int, v_ty_dict_str, v_ty_dict_lst, v_ty_dict_tup, v_ty_dict_dct, v_isN_non, v_isN_int, v_isN_bl, v_isN_str, v_sliS, v_sliL, v_sliT, v_optN, v_optI, v_meT, v_join, v_walL, v_walT, v_walS, v_rng1, v_rng2, v_enum, v_zip, v_fewF, v_any1, v_any2, Nat.zero_add, Nat.reduceAdd, Nat.reduceLT, Nat.reduceLeDiff, Nat.reduceSub, Nat.reduceEqDiff, le_lim, v_rev, dRs_rev, q1, q2, BA.runR_len h.len, hs]; simp), if_neg Bool.false_ne_true, sq0]
theorem x_s5 (h : Rws m 6 rows) (hm : m ≤ 7) : exB (run tbl.T (n + 3)) s5__law_right [some (.d .pen), some (.d (.int m)), some (.d (.lst (dRs rows))), a3, a4, a5, a6, a7, a8, a9, a10, a11, a12] S = .ret (.nx, [some (.d .pen), some (.d (.int m)), some (.d (.lst (dRs rows))), some (.d (.lst (dRs (BA.nts rows m)))), a4, a5, a6, a7, a8, a9, a10, a11, a12], S) := by
  have q := r_noughts (n := n) (good h hm) (by decide)
  simp only [s5__law_right, x3__law_right, exB, evE, evL, tstE, M.bnd, opt_some, bnd_ret, opt_bnd, mapO, List.length_cons, List.length_nil, List.map_cons, List.map_nil, List.replicate, List.getElem?_cons_zero, List.getElem?_cons_succ, List.cons_append, List.nil_append, if_true, if_false, Bool.false_eq_true, Nat.sub_self, Bool.true_and, Bool.and_true, Bool.false_and, Bool.and_false, Bool.not_true, Bool.not_false, Bool.or_false, Bool.false_or, Bool.true_or, Bool.or_true, decide_true, decide_false, Option.map_some, permD, setW, List.set_cons_zero, List.set_cons_succ, bindP, bindPs, v_rd, v_dat, v_non, v_bl, v_int, v_lst, v_tup, v_str, v_add, v_sub, v_mul, v_fdiv, v_mod, v_cat, v_app, v_neg, v_lt, v_le, v_gt, v_ge, v_eq, v_isN, v_notN, v_in, v_nin, v_inS, v_eqI, v_eqS, v_neI, v_neS, v_lenS, v_lenL, v_lenT, v_repr, v_intI, v_intB, v_abs, v_ty_int_non, v_ty_int_bl, v_ty_int_int, v_ty_int_str, v_ty_int_lst, v_ty_int_tup, v_ty_int_dct, v_ty_bool_non, v_ty_bool_bl, v_ty_bool_int, v_ty_bool_str, v_ty_bool_lst, v_ty_bool_tup, v_ty_bool_dct, v_ty_str_non, v_ty_str_bl, v_ty_str_int, v_ty_str_str, v_ty_str_lst, v_ty_str_tup, v_ty_str_dct, v_ty_list_non, v_ty_list_bl, v_ty_list_int, v_ty_list_str, v_ty_list_lst, v_ty_list_tup, v_ty_list_dct, v_ty_tuple_non, v_ty_tuple_bl, v_ty_tuple_int, v_ty_tuple_str, v_ty_tuple_lst, v_ty_tuple_tup, v_ty_tuple_dct, v_ty_dict_non, v_ty_dict_bl, v_ty_dict_int, v_ty_dict_str, v_ty_dict_lst, v_ty_dict_tup, v_ty_dict_dct, v_isN_non, v_isN_int, v_isN_bl, v_isN_str, v_sliS, v_sliL, v_sliT, v_optN, v_optI, v_meT, v_join, v_walL, v_walT, v_walS, v_rng1, v_rng2, v_enum, v_zip, v_fewF, v_any1, v_any2, Nat.zero_add, Nat.reduceAdd, Nat.reduceLT, Nat.reduceLeDiff, Nat.reduceSub, Nat.reduceEqDiff, le_lim, q]
theorem x_s7 (h : Rws m 6 rows) (hm : m ≤ 7) : exB (run tbl.T (n + 3)) s7__law_right [some (.d .pen), some (.d (.int m)), some (.d (.lst (dRs rows))), some (.d (.lst (dRs (BA.nts rows m)))), a4, a5, a6, some (.d (.int ((BA.runR rows m).k : Nat))), a8, a9, a10, a11, a12] S = .ret (.nx, [some (.d .pen), some (.d (.int m)), some (.d (.lst (dRs rows))), some (.d (.lst (dRs (BA.nts rows m)))), a4, a5, a6, some (.d (.int ((BA.runR rows m).k : Nat))), a8, a9, a10, a11, a12], S) := by
  have c := BA.nts_count h.len
  have q := r_lrank (n := n + 2) (goodN h hm)
  rw [BA.nts_rank h.len] at q
  have kk := BA.runR_len h.len
  have e1 : (((BA.nts rows m).length : Nat) : Int) = (m : Int) - ((BA.runR rows m).k : Nat) := by omega
  have q1 : evE (run tbl.T (n + 3)) k1__law_right [some (.d .pen), some (.d (.int m)), some (.d (.lst (dRs rows))), some (.d (.lst (dRs (BA.nts rows m)))), a4, a5, a6, some (.d (.int ((BA.runR rows m).k : Nat))), a8, a9, a10, a11, a12] S = .ret (.d (.lst (dRs (BA.nts rows m))), S) := ev_copy 3 rfl (by simp) (by omega)
  have q2 : evE (run tbl.T (n + 3)) k2__law_right [some (.d .pen), some (.d (.int m)), some (.d (.lst (dRs rows))), some (.d (.lst (dRs (BA.nts rows m)))), a4, a5, a6, some (.d (.int ((BA.runR rows m).k : Nat))), a8, a9, a10, a11, a12] S = .ret (.d (.lst []), S) := by
    have q := ev_of (C := run tbl.T (n + 3)) (m := false) (chk := false) (pt := .name 5) (k := .val) (src := .cons (.var 3) .nil) (cond := .cmp .ne (.bi .len (.cons (.var 5) (.nil))) (.var 1)) (elt := .dat (.int 1)) (env := [some (.d .pen), some (.d (.int m)), some (.d (.lst (dRs rows))), some (.d (.lst (dRs (BA.nts rows m)))), a4, a5, a6, some (.d (.int ((BA.runR rows m).k : Nat))), a8, a9, a10, a11, a12]) (S := S) (S1 := S) (ws := [.d (.lst (dRs (BA.nts rows m)))]) (ds := [.lst (dRs (BA.nts rows m))]) (BA.nts rows m) dR (fun r => if false = true then some (.int 1) else none) (by simp only [exB, evE, evL, tstE, M.bnd, opt_some, bnd_ret, opt_bnd, mapO, List.length_cons, List.length_nil, List.map_cons, List.map_nil, List.replicate, List.getElem?_cons_zero, List.getElem?_cons_succ, List.cons_append, List.nil_append, if_true, if_false, Bool.false_eq_true, Nat.sub_self, Bool.true_and, Bool.and_true, Bool.false_and, Bool.and_false, Bool.not_true, Bool.not_false, Bool.or_false, Bool.false_or, Bool.true_or, Bool.or_true, decide_true, decide_false, Option.map_some, permD, setW, List.set_cons_zero, List.set_cons_succ, bindP, bindPs, v_rd, v_dat, v_non, v_bl, v_int, v_lst, v_tup, v_str, v_add, v_sub, v_mul, v_fdiv, v_mod, v_cat, v_app, v_neg, v_lt, v_le, v_gt, v_ge, v_eq, v_isN, v_notN, v_in, v_nin, v_inS, v_eqI, v_eqS, v_neI, v_neS, v_lenS, v_lenL, v_lenT, v_repr, v_intI, v_intB, v_abs, v_ty_int_non, v_ty_int_bl, v_ty_int_int, v_ty_int_str, v_ty_int_lst, v_ty_int_tup, v_ty_int_dct, v_ty_bool_non, v_ty_bool_bl, v_ty_bool_int, v_ty_bool_str, v_ty_bool_lst, v_ty_bool_tup, v_ty_bool_dct, v_ty_str_non, v_ty_str_bl, v_ty_str_int, v_ty_str_str, v_ty_str_lst, v_ty_str_tup, v_ty_str_dct, v_ty_list_non, v_ty_list_bl, v_ty_list_int, v_ty_list_str, v_ty_list_lst, v_ty_list_tup, v_ty_list_dct, v_ty_tuple_non, v_ty_tuple_bl, v_ty_tuple_int, v_ty_tuple_str, v_ty_tuple_lst, v_ty_tuple_tup, v_ty_tuple_dct, v_ty_dict_non, v_ty_dict_bl, v_ty_dict_int, v_ty_dict_str, v_ty_dict_lst, v_ty_dict_tup, v_ty_dict_dct, v_isN_non, v_isN_int, v_isN_bl, v_isN_str, v_sliS, v_sliL, v_sliT, v_optN, v_optI, v_meT, v_join, v_walL, v_walT, v_walS, v_rng1, v_rng2, v_enum, v_zip, v_fewF, v_any1, v_any2, Nat.zero_add, Nat.reduceAdd, Nat.reduceLT, Nat.reduceLeDiff, Nat.reduceSub, Nat.reduceEqDiff, le_lim]) rfl rfl rfl (by unfold lim; omega) fun p hp => by
      have e3 : biD .len [dR p] = some (.int (m : Nat)) := by
        show some (D.int ((p.map D.int).length : Nat)) = _
        rw [List.length_map, BA.nts_len h.len p hp]
      refine ⟨_, by simp only [exB, evE, evL, tstE, M.bnd, opt_some, bnd_ret, opt_bnd, mapO, List.length_cons, List.length_nil, List.map_cons, List.map_nil, List.replicate, List.getElem?_cons_zero, List.getElem?_cons_succ, List.cons_append, List.nil_append, if_true, if_false, Bool.false_eq_true, Nat.sub_self, Bool.true_and, Bool.and_true, Bool.false_and, Bool.and_false, Bool.not_true, Bool.not_false, Bool.or_false, Bool.false_or, Bool.true_or, Bool.or_true, decide_true, decide_false, Option.map_some, permD, setW, List.set_cons_zero, List.set_cons_succ, bindP, bindPs, v_rd, v_dat, v_non, v_bl, v_int, v_lst, v_tup, v_str, v_add, v_sub, v_mul, v_fdiv, v_mod, v_cat, v_app, v_neg, v_lt, v_le, v_gt, v_ge, v_eq, v_isN, v_notN, v_in, v_nin, v_inS, v_eqI, v_eqS, v_neI, v_neS, v_lenS, v_lenL, v_lenT, v_repr, v_intI, v_intB, v_abs, v_ty_int_non, v_ty_int_bl, v_ty_int_int, v_ty_int_str, v_ty_int_lst, v_ty_int_tup, v_ty_int_dct, v_ty_bool_non, v_ty_bool_bl, v_ty_bool_int, v_ty_bool_str, v_ty_bool_lst, v_ty_bool_tup, v_ty_bool_dct, v_ty_str_non, v_ty_str_bl, v_ty_str_int, v_ty_str_str, v_ty_str_lst, v_ty_str_tup, v_ty_str_dct, v_ty_list_non, v_ty_list_bl, v_ty_list_int, v_ty_list_str, v_ty_list_lst, v_ty_list_tup, v_ty_list_dct, v_ty_tuple_non, v_ty_tuple_bl, v_ty_tuple_int, v_ty_tuple_str, v_ty_tuple_lst, v_ty_tuple_tup, v_ty_tuple_dct, v_ty_dict_non, v_ty_dict_bl, v_ty_dict_int, v_ty_dict_str, v_ty_dict_lst, v_ty_dict_tup, v_ty_dict_dct, v_isN_non, v_isN_int, v_isN_bl, v_isN_str, v_sliS, v_sliL, v_sliT, v_optN, v_optI, v_meT, v_join, v_walL, v_walT, v_walS, v_rng1, v_rng2, v_enum, v_zip, v_fewF, v_any1, v_any2, Nat.zero_add, Nat.reduceAdd, Nat.reduceLT, Nat.reduceLeDiff, Nat.reduceSub, Nat.reduceEqDiff, le_lim]; rfl, el_if ?_ fun h => by cases h⟩
      simp only [exB, evE, evL, tstE, M.bnd, opt_some, bnd_ret, opt_bnd, mapO, List.length_cons, List.length_nil, List.map_cons, List.map_nil, List.replicate, List.getElem?_cons_zero, List.getElem?_cons_succ, List.cons_append, List.nil_append, if_true, if_false, Bool.false_eq_true, Nat.sub_self, Bool.true_and, Bool.and_true, Bool.false_and, Bool.and_false, Bool.not_true, Bool.not_false, Bool.or_false, Bool.false_or, Bool.true_or, Bool.or_true, decide_true, decide_false, Option.map_some, permD, setW, List.set_cons_zero, List.set_cons_succ, bindP, bindPs, v_rd, v_dat, v_non, v_bl, v_int, v_lst, v_tup, v_str, v_add, v_sub, v_mul, v_fdiv, v_mod, v_cat, v_app, v_neg, v_lt, v_le, v_gt, v_ge, v_eq, v_isN, v_notN, v_in, v_nin, v_inS, v_eqI, v_eqS, v_neI, v_neS, v_lenS, v_lenL, v_lenT, v_repr, v_intI, v_intB, v_abs, v_ty_int_non, v_ty_int_bl, v_ty_int_int, v_ty_int_str, v_ty_int_lst, v_ty_int_tup, v_ty_int_dct, v_ty_bool_non, v_ty_bool_bl, v_ty_bool_int, v_ty_bool_str, v_ty_bool_lst, v_ty_bool_tup, v_ty_bool_dct, v_ty_str_non, v_ty_str_bl, v_ty_str_int, v_ty_str_str, v_ty_str_lst, v_ty_str_tup, v_ty_str_dct, v_ty_list_non, v_ty_list_bl, v_ty_list_int, v_ty_list_str, v_ty_list_lst, v_ty_list_tup, v_ty_list_dct, v_ty_tuple_non, v_ty_tuple_bl, v_ty_tuple_int, v_ty_tuple_str, v_ty_tuple_lst, v_ty_tuple_tup, v_ty_tuple_dct, v_ty_dict_non, v_ty_dict_bl, v_ty_dict_int, v_ty_dict_str, v_ty_dict_lst, v_ty_dict_tup, v_ty_dict_dct, v_isN_non, v_isN_int, v_isN_bl, v_isN_str, v_sliS, v_sliL, v_sliT, v_optN, v_optI, v_meT, v_join, v_walL, v_walT, v_walS, v_rng1, v_rng2, v_enum, v_zip, v_fewF, v_any1, v_any2, Nat.zero_add, Nat.reduceAdd, Nat.reduceLT, Nat.reduceLeDiff, Nat.reduceSub, Nat.reduceEqDiff, le_lim, e3]
      simp
    unfold k2__law_right
    rw [q, fm_if]
    simp
  have q3 : eqD (.lst []) (.lst []) = some true := eqM_nil []
  rw [s7__law_right, ife_of (k := false) (by
    simp only [x4__law_right, exB, evE, evL, tstE, M.bnd, opt_some, bnd_ret, opt_bnd, mapO, List.length_cons, List.length_nil, List.map_cons, List.map_nil, List.replicate, List.getElem?_cons_zero, List.getElem?_cons_succ, List.cons_append, List.nil_append, if_true, if_false, Bool.false_eq_true, Nat.sub_self, Bool.true_and, Bool.and_true, Bool.false_and, Bool.and_false, Bool.not_true, Bool.not_false, Bool.or_false, Bool.false_or, Bool.true_or, Bool.or_true, decide_true, decide_false, Option.map_some, permD, setW, List.set_cons_zero, List.set_cons_succ, bindP, bindPs, v_rd, v_dat, v_non, v_bl, v_int, v_lst, v_tup, v_str, v_add, v_sub, v_mul, v_fdiv, v_mod, v_cat, v_app, v_neg, v_lt, v_le, v_gt, v_ge, v_eq, v_isN, v_notN, v_in, v_nin, v_inS, v_eqI, v_eqS, v_neI, v_neS, v_lenS, v_lenL, v_lenT, v_repr, v_intI, v_intB, v_abs, v_ty_int_non, v_ty_int_bl, v_ty_int_int, v_ty_int_str, v_ty_int_lst, v_ty_int_tup, v_ty_int_dct, v_ty_bool_non, v_ty_bool_bl, v_ty_bool_int, v_ty_bool_str, v_ty_bool_lst, v_ty_bool_tup, v_ty_bool_dct, v_ty_str_non, v_ty_str_bl, v_ty_str_int, v_ty_str_str, v_ty_str_lst, v_ty_str_tup, v_ty_str_dct, v_ty_list_non, v_ty_list_bl, v_ty_list_int, v_ty_list_str, v_ty_list_lst, v_ty_list_tup, v_ty_list_dct, v_ty_tuple_non, v_ty_tuple_bl, v_ty_tuple_int, v_ty_tuple_str, v_ty_tuple_lst, v_ty_tuple_tup, v_ty_tuple_dct, v_ty_dict_non, v_ty_dict_bl, v_ty_dict_int, v_ty_dict_str, v_ty_dict_lst, v_ty_dict_tup, v_ty_dict_dct, v_isN_non, v_isN_int, v_isN_bl, v_isN_str, v_sliS, v_sliL, v_sliT, v_optN, v_optI, v_meT, v_join, v_walL, v_walT, v_walS, v_rng1, v_rng2, v_enum, v_zip, v_fewF, v_any1, v_any2, Nat.zero_add, Nat.reduceAdd, Nat.reduceLT, Nat.reduceLeDiff, Nat.reduceSub, Nat.reduceEqDiff, le_lim, dRs_len, q1, q, q2, v_neL, q3, ← e1, beq_self_eq_true]), if_neg Bool.false_ne_true, sq0]
theorem all_none {α : Type} (l : List α) : (l.filterMap fun _ => (none : Option D)) = [] := by
  induction l with
  | nil => rfl
  | cons a l ih => rw [List.filterMap_cons_none rfl, ih]
theorem x_s10 (h : Rws m 6 rows) (hm : m ≤ 7) : ∃ b4 b8, exB (run tbl.T (n + 3)) s10__law_right [some (.d .pen), some (.d (.int m)), some (.d (.lst (dRs rows))), some (.d (.lst (dRs (BA.nts rows m)))), a4, a5, a6, a7, a8, a9, a10, a11, a12] [] = .ret (.nx, [some (.d .pen), some (.d (.int m)), some (.d (.lst (dRs rows))), some (.d (.lst (dRs (BA.nts rows m)))), b4, a5, a6, a7, b8, a9, a10, a11, a12], []) := by
  have c := BA.nts_count h.len
  have few := h.few
  obtain ⟨env2, S2, e, rfl, b4, b8, rfl⟩ := ex_for (C := run tbl.T (n + 3)) (chk := false) (pt := .name 4) (k := .val) (src := .cons (.var 2) .nil) (body := y3__law_right) (env := [some (.d .pen), some (.d (.int m)), some (.d (.lst (dRs rows))), some (.d (.lst (dRs (BA.nts rows m)))), a4, a5, a6, a7, a8, a9, a10, a11, a12]) (S := []) (S1 := [])
    (I := fun i env S => S = [] ∧ ∃ b4 b8, env = [some (.d .pen), some (.d (.int m)), some (.d (.lst (dRs rows))), some (.d (.lst (dRs (BA.nts rows m)))), b4, a5, a6, a7, b8, a9, a10, a11, a12]) (ws := [.d (.lst (dRs rows))]) (ds := [.lst (dRs rows)]) (its := dRs rows) (by simp only [exB, evE, evL, tstE, M.bnd, opt_some, bnd_ret, opt_bnd, mapO, List.length_cons, List.length_nil, List.map_cons, List.map_nil, List.replicate, List.getElem?_cons_zero, List.getElem?_cons_succ, List.cons_append, List.nil_append, if_true, if_false, Bool.false_eq_true, Nat.sub_self, Bool.true_and, Bool.and_true, Bool.false_and, Bool.and_false, Bool.not_true, Bool.not_false, Bool.or_false, Bool.false_or, Bool.true_or, Bool.or_true, decide_true, decide_false, Option.map_some, permD, setW, List.set_cons_zero, List.set_cons_succ, bindP, bindPs, v_rd, v_dat, v_non, v_bl, v_int, v_lst, v_tup, v_str, v_add, v_sub, v_mul, v_fdiv, v_mod, v_cat, v_app, v_neg, v_lt, v_le, v_gt, v_ge, v_eq, v_isN, v_notN, v_in, v_nin, v_inS, v_eqI, v_eqS, v_neI, v_neS, v_lenS, v_lenL, v_lenT, v_repr, v_intI, v_intB, v_abs, v_ty_int_non, v_ty_int_bl, v_ty_int_int, v_ty_int_str, v_ty_int_lst, v_ty_int_tup, v_ty_int_dct, v_ty_bool_non, v_ty_bool_bl, v_ty_bool_int, v_ty_bool_str, v_ty_bool_lst, v_ty_bool_tup, v_ty_bool_dct, v_ty_str_non, v_ty_str_bl, v_ty_str_int, v_ty_str_str, v_ty_str_lst, v_ty_str_tup, v_ty_str_dct, v_ty_list_non, v_ty_list_bl, v_ty_list_int, v_ty_list_str, v_ty_list_lst, v_ty_list_tup, v_ty_list_dct, v_ty_tuple_non, v_ty_tuple_bl, v_ty_tuple_int, v_ty_tuple_str, v_ty_tuple_lst, v_ty_tuple_tup, v_ty_tuple_dct, v_ty_dict_non, v_ty_dict_bl, v_ty_dict_int, v_ty_dict_str, v_ty_dict_lst, v_ty_dict_tup, v_ty_dict_dct, v_isN_non, v_isN_int, v_isN_bl, v_isN_str, v_sliS, v_sliL, v_sliT, v_optN, v_optI, v_meT, v_join, v_walL, v_walT, v_walS, v_rng1, v_rng2, v_enum, v_zip, v_fewF, v_any1, v_any2, Nat.zero_add, Nat.reduceAdd, Nat.reduceLT, Nat.reduceLeDiff, Nat.reduceSub, Nat.reduceEqDiff, le_lim]) rfl rfl rfl ⟨rfl, a4, a8, rfl⟩ (fun i d hd env S hI => by
      obtain ⟨hS, b4, b8, he⟩ := hI
      subst hS he
      obtain ⟨r, hr, rfl⟩ := getElem?_map_some hd
      have hr := List.mem_of_getElem? hr
      refine ⟨[some (.d .pen), some (.d (.int m)), some (.d (.lst (dRs rows))), some (.d (.lst (dRs (BA.nts rows m)))), some (.d (dR r)), a5, a6, a7, b8, a9, a10, a11, a12], [some (.d .pen), some (.d (.int m)), some (.d (.lst (dRs rows))), some (.d (.lst (dRs (BA.nts rows m)))), some (.d (dR r)), a5, a6, a7, b8, a9, a10, a11, a12], [], by simp only [exB, evE, evL, tstE, M.bnd, opt_some, bnd_ret, opt_bnd, mapO, List.length_cons, List.length_nil, List.map_cons, List.map_nil, List.replicate, List.getElem?_cons_zero, List.getElem?_cons_succ, List.cons_append, List.nil_append, if_true, if_false, Bool.false_eq_true, Nat.sub_self, Bool.true_and, Bool.and_true, Bool.false_and, Bool.and_false, Bool.not_true, Bool.not_false, Bool.or_false, Bool.false_or, Bool.true_or, Bool.or_true, decide_true, decide_false, Option.map_some, permD, setW, List.set_cons_zero, List.set_cons_succ, bindP, bindPs, v_rd, v_dat, v_non, v_bl, v_int, v_lst, v_tup, v_str, v_add, v_sub, v_mul, v_fdiv, v_mod, v_cat, v_app, v_neg, v_lt, v_le, v_gt, v_ge, v_eq, v_isN, v_notN, v_in, v_nin, v_inS, v_eqI, v_eqS, v_neI, v_neS, v_lenS, v_lenL, v_lenT, v_repr, v_intI, v_intB, v_abs, v_ty_int_non, v_ty_int_bl, v_ty_int_int, v_ty_int_str, v_ty_int_lst, v_ty_int_tup, v_ty_int_dct, v_ty_bool_non, v_ty_bool_bl, v_ty_bool_int, v_ty_bool_str, v_ty_bool_lst, v_ty_bool_tup, v_ty_bool_dct, v_ty_str_non, v_ty_str_bl, v_ty_str_int, v_ty_str_str, v_ty_str_lst, v_ty_str_tup, v_ty_str_dct, v_ty_list_non, v_ty_list_bl, v_ty_list_int, v_ty_list_str, v_ty_list_lst, v_ty_list_tup, v_ty_list_dct, v_ty_tuple_non, v_ty_tuple_bl, v_ty_tuple_int, v_ty_tuple_str, v_ty_tuple_lst, v_ty_tuple_tup, v_ty_tuple_dct, v_ty_dict_non, v_ty_dict_bl, v_ty_dict_int, v_ty_dict_str, v_ty_dict_lst, v_ty_dict_tup, v_ty_dict_dct, v_isN_non, v_isN_int, v_isN_bl, v_isN_str, v_sliS, v_sliL, v_sliT, v_optN, v_optI, v_meT, v_join, v_walL, v_walT, v_walS, v_rng1, v_rng2, v_enum, v_zip, v_fewF, v_any1, v_any2, Nat.zero_add, Nat.reduceAdd, Nat.reduceLT, Nat.reduceLeDiff, Nat.reduceSub, Nat.reduceEqDiff, le_lim], ?_, rfl, _, _, rfl⟩
      have q3 : evE (run tbl.T (n + 3)) k3__law_right [some (.d .pen), some (.d (.int m)), some (.d (.lst (dRs rows))), some (.d (.lst (dRs (BA.nts rows m)))), some (.d (dR r)), a5, a6, a7, b8, a9, a10, a11, a12] [] = .ret (.d (.lst []), []) := by
        have q := ev_of (C := run tbl.T (n + 3)) (m := false) (chk := false) (pt := .name 8) (k := .val) (src := .cons (.var 3) .nil) (cond := .cmp .ne (.call 9 (.cons (.var 8) (.cons (.var 4) (.nil)))) (.dat (.int 0))) (elt := .dat (.int 1)) (env := [some (.d .pen), some (.d (.int m)), some (.d (.lst (dRs rows))), some (.d (.lst (dRs (BA.nts rows m)))), some (.d (dR r)), a5, a6, a7, b8, a9, a10, a11, a12]) (S := []) (S1 := []) (ws := [.d (.lst (dRs (BA.nts rows m)))]) (ds := [.lst (dRs (BA.nts rows m))]) (BA.nts rows m) dR (fun r => if false = true then some (.int 1) else none) (by simp only [exB, evE, evL, tstE, M.bnd, opt_some, bnd_ret, opt_bnd, mapO, List.length_cons, List.length_nil, List.map_cons, List.map_nil, List.replicate, List.getElem?_cons_zero, List.getElem?_cons_succ, List.cons_append, List.nil_append, if_true, if_false, Bool.false_eq_true, Nat.sub_self, Bool.true_and, Bool.and_true, Bool.false_and, Bool.and_false, Bool.not_true, Bool.not_false, Bool.or_false, Bool.false_or, Bool.true_or, Bool.or_true, decide_true, decide_false, Option.map_some, permD, setW, List.set_cons_zero, List.set_cons_succ, bindP, bindPs, v_rd, v_dat, v_non, v_bl, v_int, v_lst, v_tup, v_str, v_add, v_sub, v_mul, v_fdiv, v_mod, v_cat, v_app, v_neg, v_lt, v_le, v_gt, v_ge, v_eq, v_isN, v_notN, v_in, v_nin, v_inS, v_eqI, v_eqS, v_neI, v_neS, v_lenS, v_lenL, v_lenT, v_repr, v_intI, v_intB, v_abs, v_ty_int_non, v_ty_int_bl, v_ty_int_int, v_ty_int_str, v_ty_int_lst, v_ty_int_tup, v_ty_int_dct, v_ty_bool_non, v_ty_bool_bl, v_ty_bool_int, v_ty_bool_str, v_ty_bool_lst, v_ty_bool_tup, v_ty_bool_dct, v_ty_str_non, v_ty_str_bl, v_ty_str_int, v_ty_str_str, v_ty_str_lst, v_ty_str_tup, v_ty_str_dct, v_ty_list_non, v_ty_list_bl, v_ty_list_int, v_ty_list_str, v_ty_list_lst, v_ty_list_tup, v_ty_list_dct, v_ty_tuple_non, v_ty_tuple_bl, v_ty_tuple_int, v_ty_tuple_str, v_ty_tuple_lst, v_ty_tuple_tup, v_ty_tuple_dct, v_ty_dict_non, v_ty_dict_bl, v_ty_dict_int, v_ty_dict_str, v_ty_dict_lst, v_ty_dict_tup, v_ty_dict_dct, v_isN_non, v_isN_int, v_isN_bl, v_isN_str, v_sliS, v_sliL, v_sliT, v_optN, v_optI, v_meT, v_join, v_walL, v_walT, v_walS, v_rng1, v_rng2, v_enum, v_zip, v_fewF, v_any1, v_any2, Nat.zero_add, Nat.reduceAdd, Nat.reduceLT, Nat.reduceLeDiff, Nat.reduceSub, Nat.reduceEqDiff, le_lim]) rfl rfl rfl (by unfold lim; omega) fun t ht => by
          have st : Sm 814 t := fun p hp => Nat.lt_of_le_of_lt (nts_sm h hm t ht p hp) (Nat.pow_lt_pow_right (by decide) (by decide))
          have sr : Sm 814 r := fun p hp => Nat.lt_of_le_of_lt (h.le r hr p hp) (Nat.lt_trans (Bd_pow (by decide)) (Nat.pow_lt_pow_right (by decide) (by decide)))
          have qd := r_dot (n + 2) (a := t) (b := r) 814 (by decide) (by decide) st sr (by rw [BA.nts_len h.len t ht]; omega)
          rw [BA.nts_dot h.len hr t ht] at qd
          refine ⟨_, by simp only [exB, evE, evL, tstE, M.bnd, opt_some, bnd_ret, opt_bnd, mapO, List.length_cons, List.length_nil, List.map_cons, List.map_nil, List.replicate, List.getElem?_cons_zero, List.getElem?_cons_succ, List.cons_append, List.nil_append, if_true, if_false, Bool.false_eq_true, Nat.sub_self, Bool.true_and, Bool.and_true, Bool.false_and, Bool.and_false, Bool.not_true, Bool.not_false, Bool.or_false, Bool.false_or, Bool.true_or, Bool.or_true, decide_true, decide_false, Option.map_some, permD, setW, List.set_cons_zero, List.set_cons_succ, bindP, bindPs, v_rd, v_dat, v_non, v_bl, v_int, v_lst, v_tup, v_str, v_add, v_sub, v_mul, v_fdiv, v_mod, v_cat, v_app, v_neg, v_lt, v_le, v_gt, v_ge, v_eq, v_isN, v_notN, v_in, v_nin, v_inS, v_eqI, v_eqS, v_neI, v_neS, v_lenS, v_lenL, v_lenT, v_repr, v_intI, v_intB, v_abs, v_ty_int_non, v_ty_int_bl, v_ty_int_int, v_ty_int_str, v_ty_int_lst, v_ty_int_tup, v_ty_int_dct, v_ty_bool_non, v_ty_bool_bl, v_ty_bool_int, v_ty_bool_str, v_ty_bool_lst, v_ty_bool_tup, v_ty_bool_dct, v_ty_str_non, v_ty_str_bl, v_ty_str_int, v_ty_str_str, v_ty_str_lst, v_ty_str_tup, v_ty_str_dct, v_ty_list_non, v_ty_list_bl, v_ty_list_int, v_ty_list_str, v_ty_list_lst, v_ty_list_tup, v_ty_list_dct, v_ty_tuple_non, v_ty_tuple_bl, v_ty_tuple_int, v_ty_tuple_str, v_ty_tuple_lst, v_ty_tuple_tup, v_ty_tuple_dct, v_ty_dict_non, v_ty_dict_bl, v_ty_dict_int, v_ty_dict_str, v_ty_dict_lst, v_ty_dict_tup, v_ty_dict_dct, v_isN_non, v_isN_int, v_isN_bl, v_isN_str, v_sliS, v_sliL, v_sliT, v_optN, v_optI, v_meT, v_join, v_walL, v_walT, v_walS, v_rng1, v_rng2, v_enum, v_zip, v_fewF, v_any1, v_any2, Nat.zero_add, Nat.reduceAdd, Nat.reduceLT, Nat.reduceLeDiff, Nat.reduceSub, Nat.reduceEqDiff, le_lim]; rfl, el_if ?_ fun h => by cases h⟩
          simp only [exB, evE, evL, tstE, M.bnd, opt_some, bnd_ret, opt_bnd, mapO, List.length_cons, List.length_nil, List.map_cons, List.map_nil, List.replicate, List.getElem?_cons_zero, List.getElem?_cons_succ, List.cons_append, List.nil_append, if_true, if_false, Bool.false_eq_true, Nat.sub_self, Bool.true_and, Bool.and_true, Bool.false_and, Bool.and_false, Bool.not_true, Bool.not_false, Bool.or_false, Bool.false_or, Bool.true_or, Bool.or_true, decide_true, decide_false, Option.map_some, permD, setW, List.set_cons_zero, List.set_cons_succ, bindP, bindPs, v_rd, v_dat, v_non, v_bl, v_int, v_lst, v_tup, v_str, v_add, v_sub, v_mul, v_fdiv, v_mod, v_cat, v_app, v_neg, v_lt, v_le, v_gt, v_ge, v_eq, v_isN, v_notN, v_in, v_nin, v_inS, v_eqI, v_eqS, v_neI, v_neS, v_lenS, v_lenL, v_lenT, v_repr, v_intI, v_intB, v_abs, v_ty_int_non, v_ty_int_bl, v_ty_int_int, v_ty_int_str, v_ty_int_lst, v_ty_int_tup, v_ty_int_dct, v_ty_bool_non, v_ty_bool_bl, v_ty_bool_int, v_ty_bool_str, v_ty_bool_lst, v_ty_bool_tup, v_ty_bool_dct, v_ty_str_non, v_ty_str_bl, v_ty_str_int, v_ty_str_str, v_ty_str_lst, v_ty_str_tup, v_ty_str_dct, v_ty_list_non, v_ty_list_bl, v_ty_list_int, v_ty_list_str, v_ty_list_lst, v_ty_list_tup, v_ty_list_dct, v_ty_tuple_non, v_ty_tuple_bl, v_ty_tuple_int, v_ty_tuple_str, v_ty_tuple_lst, v_ty_tuple_tup, v_ty_tuple_dct, v_ty_dict_non, v_ty_dict_bl, v_ty_dict_int, v_ty_dict_str, v_ty_dict_lst, v_ty_dict_tup, v_ty_dict_dct, v_isN_non, v_isN_int, v_isN_bl, v_isN_str, v_sliS, v_sliL, v_sliT, v_optN, v_optI, v_meT, v_join, v_walL, v_walT, v_walS, v_rng1, v_rng2, v_enum, v_zip, v_fewF, v_any1, v_any2, Nat.zero_add, Nat.reduceAdd, Nat.reduceLT, Nat.reduceLeDiff, Nat.reduceSub, Nat.reduceEqDiff, le_lim, qd, beq_self_eq_true]
        unfold k3__law_right
        rw [q, fm_if]
        simp
      have q4 : eqD (.lst []) (.lst []) = some true := eqM_nil []
      unfold y3__law_right
      refine sq1 ?_
      rw [s9__law_right, ife_of (k := false) (by simp only [exB, evE, evL, tstE, M.bnd, opt_some, bnd_ret, opt_bnd, mapO, List.length_cons, List.length_nil, List.map_cons, List.map_nil, List.replicate, List.getElem?_cons_zero, List.getElem?_cons_succ, List.cons_append, List.nil_append, if_true, if_false, Bool.false_eq_true, Nat.sub_self, Bool.true_and, Bool.and_true, Bool.false_and, Bool.and_false, Bool.not_true, Bool.not_false, Bool.or_false, Bool.false_or, Bool.true_or, Bool.or_true, decide_true, decide_false, Option.map_some, permD, setW, List.set_cons_zero, List.set_cons_succ, bindP, bindPs, v_rd, v_dat, v_non, v_bl, v_int, v_lst, v_tup, v_str, v_add, v_sub, v_mul, v_fdiv, v_mod, v_cat, v_app, v_neg, v_lt, v_le, v_gt, v_ge, v_eq, v_isN, v_notN, v_in, v_nin, v_inS, v_eqI, v_eqS, v_neI, v_neS, v_lenS, v_lenL, v_lenT, v_repr, v_intI, v_intB, v_abs, v_ty_int_non, v_ty_int_bl, v_ty_int_int, v_ty_int_str, v_ty_int_lst, v_ty_int_tup, v_ty_int_dct, v_ty_bool_non, v_ty_bool_bl, v_ty_bool_int, v_ty_bool_str, v_ty_bool_lst, v_ty_bool_tup, v_ty_bool_dct, v_ty_str_non, v_ty_str_bl, v_ty_str_int, v_ty_str_str, v_ty_str_lst, v_ty_str_tup, v_ty_str_dct, v_ty_list_non, v_ty_list_bl, v_ty_list_int, v_ty_list_str, v_ty_list_lst, v_ty_list_tup, v_ty_list_dct, v_ty_tuple_non, v_ty_tuple_bl, v_ty_tuple_int, v_ty_tuple_str, v_ty_tuple_lst, v_ty_tuple_tup, v_ty_tuple_dct, v_ty_dict_non, v_ty_dict_bl, v_ty_dict_int, v_ty_dict_str, v_ty_dict_lst, v_ty_dict_tup, v_ty_dict_dct, v_isN_non, v_isN_int, v_isN_bl, v_isN_str, v_sliS, v_sliL, v_sliT, v_optN, v_optI, v_meT, v_join, v_walL, v_walT, v_walS, v_rng1, v_rng2, v_enum, v_zip, v_fewF, v_any1, v_any2, Nat.zero_add, Nat.reduceAdd, Nat.reduceLT, Nat.reduceLeDiff, Nat.reduceSub, Nat.reduceEqDiff, le_lim, q3, v_neL, q4]), if_neg Bool.false_ne_true, sq0])
  exact ⟨b4, b8, e⟩
theorem x_s12 : exB (run tbl.T (n + 3)) s12__law_right [some (.d .pen), some (.d (.int m)), some (.d (.lst (dRs rows))), a3, a4, a5, some (.d (.lst (dRs rows))), a7, a8, a9, a10, a11, a12] S = .ret (.nx, [some (.d .pen), some (.d (.int m)), some (.d (.lst (dRs rows))), a3, a4, a5, some (.d (.lst (dRs rows))), a7, a8, a9, a10, a11, a12], S) := by
  rw [s12__law_right, ife_of (k := false) (by simp only [exB, evE, evL, tstE, M.bnd, opt_some, bnd_ret, opt_bnd, mapO, List.length_cons, List.length_nil, List.map_cons, List.map_nil, List.replicate, List.getElem?_cons_zero, List.getElem?_cons_succ, List.cons_append, List.nil_append, if_true, if_false, Bool.false_eq_true, Nat.sub_self, Bool.true_and, Bool.and_true, Bool.false_and, Bool.and_false, Bool.not_true, Bool.not_false, Bool.or_false, Bool.false_or, Bool.true_or, Bool.or_true, decide_true, decide_false, Option.map_some, permD, setW, List.set_cons_zero, List.set_cons_succ, bindP, bindPs, v_rd, v_dat, v_non, v_bl, v_int, v_lst, v_tup, v_str, v_add, v_sub, v_mul, v_fdiv, v_mod, v_cat, v_app, v_neg, v_lt, v_le, v_gt, v_ge, v_eq, v_isN, v_notN, v_in, v_nin, v_inS, v_eqI, v_eqS, v_neI, v_neS, v_lenS, v_lenL, v_lenT, v_repr, v_intI, v_intB, v_abs, v_ty_int_non, v_ty_int_bl, v_ty_int_int, v_ty_int_str, v_ty_int_lst, v_ty_int_tup, v_ty_int_dct, v_ty_bool_non, v_ty_bool_bl, v_ty_bool_int, v_ty_bool_str, v_ty_bool_lst, v_ty_bool_tup, v_ty_bool_dct, v_ty_str_non, v_ty_str_bl, v_ty_str_int, v_ty_str_str, v_ty_str_lst, v_ty_str_tup, v_ty_str_dct, v_ty_list_non, v_ty_list_bl, v_ty_list_int, v_ty_list_str, v_ty_list_lst, v_ty_list_tup, v_ty_list_dct, v_ty_tuple_non, v_ty_tuple_bl, v_ty_tuple_int, v_ty_tuple_str, v_ty_tuple_lst, v_ty_tuple_tup, v_ty_tuple_dct, v_ty_dict_non, v_ty_dict_bl, v_ty_dict_int, v_ty_dict_str, v_ty_dict_lst, v_ty_dict_tup, v_ty_dict_dct, v_isN_non, v_isN_int, v_isN_bl, v_isN_str, v_sliS, v_sliL, v_sliT, v_optN, v_optI, v_meT, v_join, v_walL, v_walT, v_walS, v_rng1, v_rng2, v_enum, v_zip, v_fewF, v_any1, v_any2, Nat.zero_add, Nat.reduceAdd, Nat.reduceLT, Nat.reduceLeDiff, Nat.reduceSub, Nat.reduceEqDiff, le_lim, v_neL, eqM_self]), if_neg Bool.false_ne_true, sq0]
theorem v_neR {a b : List Int} : cmpD .ne (dR a) (dR b) = (eqD (dR a) (dR b)).map not := rfl
theorem x_turn (h : Rws m 6 rows) (hm : m ≤ 7) {r : List Int} (hr : r ∈ rows) {a2 : Option W} : exB (run tbl.T (n + 3)) y6__law_right [some (.d .pen), some (.d (.int m)), a2, a3, a4, some (.d (dR r)), a6, a7, a8, a9, a10, a11, a12] S = .ret (.nx, [some (.d .pen), some (.d (.int m)), a2, a3, a4, some (.d (dR r)), a6, a7, a8, some (.d (.int (BA.gcdL r))), some (.d (dR (BA.shr r))), a11, a12], S) := by
  have sr : Sm 200 r := fun p hp => Nat.lt_of_le_of_lt (h.le r hr p hp) (Nat.lt_trans (Bd_pow (by decide)) (Nat.pow_lt_pow_right (by decide) (by decide)))
  have sr8 : Sm 8000 r := sr.mono (by decide)
  have ss : Sm 200 (BA.shr r) := fun p hp => by
    obtain ⟨q, hq, hle⟩ := BA.shr_small hp
    exact Nat.lt_of_le_of_lt hle (sr q hq)
  have rl : r.length = m := h.len r hr
  have q1 := r_ldiv (n + 2) sr8
  have q2 := r_shr (n + 1) sr8 (by omega)
  have q3 := r_gd (n + 2) sr8
  have q4 := r_ldiv (n + 2) (ss.mono (by decide : 200 ≤ 8000))
  have gs := gcd_sm sr
  have gi : ((BA.gcdL r : Nat) : Int).natAbs < 2 ^ 1000 := by
    rw [Int.natAbs_natCast]
    exact Nat.lt_trans gs (Nat.pow_lt_pow_right (by decide) (by decide))
  have mi : (if (BA.gcdL r : Int) > 1 then (BA.gcdL r : Int) else 1).natAbs < 2 ^ 200 := by
    split
    · rw [Int.natAbs_natCast]; exact gs
    · exact Nat.one_lt_two_pow (by decide)
  obtain ⟨s, hs⟩ := repr1 gi
  have q5 : evE (run tbl.T (n + 3)) k4__law_right [some (.d .pen), some (.d (.int m)), a2, a3, a4, some (.d (dR r)), a6, a7, a8, some (.d (.int (BA.gcdL r))), some (.d (dR (BA.shr r))), a11, a12] S = .ret (.d (dR r), S) := by
    have q := ev_of (C := run tbl.T (n + 3)) (m := false) (chk := false) (pt := .name 12) (k := .val) (src := .cons (.var 10) .nil) (cond := .dat (.bl true)) (elt := .bin .mul (.var 12) (.bi .max (.cons (.dat (.int 1)) (.cons (.var 9) (.nil))))) (env := [some (.d .pen), some (.d (.int m)), a2, a3, a4, some (.d (dR r)), a6, a7, a8, some (.d (.int (BA.gcdL r))), some (.d (dR (BA.shr r))), a11, a12]) (S := S) (S1 := S) (ws := [.d (dR (BA.shr r))]) (ds := [dR (BA.shr r)]) (BA.shr r) D.int (fun p => some (D.int (p * (if (BA.gcdL r : Int) > 1 then (BA.gcdL r : Int) else 1)))) (by simp only [exB, evE, evL, tstE, M.bnd, opt_some, bnd_ret, opt_bnd, mapO, List.length_cons, List.length_nil, List.map_cons, List.map_nil, List.replicate, List.getElem?_cons_zero, List.getElem?_cons_succ, List.cons_append, List.nil_append, if_true, if_false, Bool.false_eq_true, Nat.sub_self, Bool.true_and, Bool.and_true, Bool.false_and, Bool.and_false, Bool.not_true, Bool.not_false, Bool.or_false, Bool.false_or, Bool.true_or, Bool.or_true, decide_true, decide_false, Option.map_some, permD, setW, List.set_cons_zero, List.set_cons_succ, bindP, bindPs, v_rd, v_dat, v_non, v_bl, v_int, v_lst, v_tup, v_str, v_add, v_sub, v_mul, v_fdiv, v_mod, v_cat, v_app, v_neg, v_lt, v_le, v_gt, v_ge, v_eq, v_isN, v_notN, v_in, v_nin, v_inS, v_eqI, v_eqS, v_neI, v_neS, v_lenS, v_lenL, v_lenT, v_repr, v_intI, v_intB, v_abs, v_ty_int_non, v_ty_int_bl, v_ty_int_int, v_ty_int_str, v_ty_int_lst, v_ty_int_tup, v_ty_int_dct, v_ty_bool_non, v_ty_bool_bl, v_ty_bool_int, v_ty_bool_str, v_ty_bool_lst, v_ty_bool_tup, v_ty_bool_dct, v_ty_str_non, v_ty_str_bl, v_ty_str_int, v_ty_str_str, v_ty_str_lst, v_ty_str_tup, v_ty_str_dct, v_ty_list_non, v_ty_list_bl, v_ty_list_int, v_ty_list_str, v_ty_list_lst, v_ty_list_tup, v_ty_list_dct, v_ty_tuple_non, v_ty_tuple_bl, v_ty_tuple_int, v_ty_tuple_str, v_ty_tuple_lst, v_ty_tuple_tup, v_ty_tuple_dct, v_ty_dict_non, v_ty_dict_bl, v_ty_dict_int, v_ty_dict_str, v_ty_dict_lst, v_ty_dict_tup, v_ty_dict_dct, v_isN_non, v_isN_int, v_isN_bl, v_isN_str, v_sliS, v_sliL, v_sliT, v_optN, v_optI, v_meT, v_join, v_walL, v_walT, v_walS, v_rng1, v_rng2, v_enum, v_zip, v_fewF, v_any1, v_any2, Nat.zero_add, Nat.reduceAdd, Nat.reduceLT, Nat.reduceLeDiff, Nat.reduceSub, Nat.reduceEqDiff, le_lim]) rfl rfl rfl (by rw [BA.shr_length]; unfold lim; omega) fun p hp => by
      refine ⟨_, by simp only [exB, evE, evL, tstE, M.bnd, opt_some, bnd_ret, opt_bnd, mapO, List.length_cons, List.length_nil, List.map_cons, List.map_nil, List.replicate, List.getElem?_cons_zero, List.getElem?_cons_succ, List.cons_append, List.nil_append, if_true, if_false, Bool.false_eq_true, Nat.sub_self, Bool.true_and, Bool.and_true, Bool.false_and, Bool.and_false, Bool.not_true, Bool.not_false, Bool.or_false, Bool.false_or, Bool.true_or, Bool.or_true, decide_true, decide_false, Option.map_some, permD, setW, List.set_cons_zero, List.set_cons_succ, bindP, bindPs, v_rd, v_dat, v_non, v_bl, v_int, v_lst, v_tup, v_str, v_add, v_sub, v_mul, v_fdiv, v_mod, v_cat, v_app, v_neg, v_lt, v_le, v_gt, v_ge, v_eq, v_isN, v_notN, v_in, v_nin, v_inS, v_eqI, v_eqS, v_neI, v_neS, v_lenS, v_lenL, v_lenT, v_repr, v_intI, v_intB, v_abs, v_ty_int_non, v_ty_int_bl, v_ty_int_int, v_ty_int_str, v_ty_int_lst, v_ty_int_tup, v_ty_int_dct, v_ty_bool_non, v_ty_bool_bl, v_ty_bool_int, v_ty_bool_str, v_ty_bool_lst, v_ty_bool_tup, v_ty_bool_dct, v_ty_str_non, v_ty_str_bl, v_ty_str_int, v_ty_str_str, v_ty_str_lst, v_ty_str_tup, v_ty_str_dct, v_ty_list_non, v_ty_list_bl, v_ty_list_int, v_ty_list_str, v_ty_list_lst, v_ty_list_tup, v_ty_list_dct, v_ty_tuple_non, v_ty_tuple_bl, v_ty_tuple_int, v_ty_tuple_str, v_ty_tuple_lst, v_ty_tuple_tup, v_ty_tuple_dct, v_ty_dict_non, v_ty_dict_bl, v_ty_dict_int, v_ty_dict_str, v_ty_dict_lst, v_ty_dict_tup, v_ty_dict_dct, v_isN_non, v_isN_int, v_isN_bl, v_isN_str, v_sliS, v_sliL, v_sliT, v_optN, v_optI, v_meT, v_join, v_walL, v_walT, v_walS, v_rng1, v_rng2, v_enum, v_zip, v_fewF, v_any1, v_any2, Nat.zero_add, Nat.reduceAdd, Nat.reduceLT, Nat.reduceLeDiff, Nat.reduceSub, Nat.reduceEqDiff, le_lim]; rfl, el_yes ?_⟩
      have em := mulok (ss p hp) mi (by decide) (by decide)
      simp only [exB, evE, evL, tstE, M.bnd, opt_some, bnd_ret, opt_bnd, mapO, List.length_cons, List.length_nil, List.map_cons, List.map_nil, List.replicate, List.getElem?_cons_zero, List.getElem?_cons_succ, List.cons_append, List.nil_append, if_true, if_false, Bool.false_eq_true, Nat.sub_self, Bool.true_and, Bool.and_true, Bool.false_and, Bool.and_false, Bool.not_true, Bool.not_false, Bool.or_false, Bool.false_or, Bool.true_or, Bool.or_true, decide_true, decide_false, Option.map_some, permD, setW, List.set_cons_zero, List.set_cons_succ, bindP, bindPs, v_rd, v_dat, v_non, v_bl, v_int, v_lst, v_tup, v_str, v_add, v_sub, v_mul, v_fdiv, v_mod, v_cat, v_app, v_neg, v_lt, v_le, v_gt, v_ge, v_eq, v_isN, v_notN, v_in, v_nin, v_inS, v_eqI, v_eqS, v_neI, v_neS, v_lenS, v_lenL, v_lenT, v_repr, v_intI, v_intB, v_abs, v_ty_int_non, v_ty_int_bl, v_ty_int_int, v_ty_int_str, v_ty_int_lst, v_ty_int_tup, v_ty_int_dct, v_ty_bool_non, v_ty_bool_bl, v_ty_bool_int, v_ty_bool_str, v_ty_bool_lst, v_ty_bool_tup, v_ty_bool_dct, v_ty_str_non, v_ty_str_bl, v_ty_str_int, v_ty_str_str, v_ty_str_lst, v_ty_str_tup, v_ty_str_dct, v_ty_list_non, v_ty_list_bl, v_ty_list_int, v_ty_list_str, v_ty_list_lst, v_ty_list_tup, v_ty_list_dct, v_ty_tuple_non, v_ty_tuple_bl, v_ty_tuple_int, v_ty_tuple_str, v_ty_tuple_lst, v_ty_tuple_tup, v_ty_tuple_dct, v_ty_dict_non, v_ty_dict_bl, v_ty_dict_int, v_ty_dict_str, v_ty_dict_lst, v_ty_dict_tup, v_ty_dict_dct, v_isN_non, v_isN_int, v_isN_bl, v_isN_str, v_sliS, v_sliL, v_sliT, v_optN, v_optI, v_meT, v_join, v_walL, v_walT, v_walS, v_rng1, v_rng2, v_enum, v_zip, v_fewF, v_any1, v_any2, Nat.zero_add, Nat.reduceAdd, Nat.reduceLT, Nat.reduceLeDiff, Nat.reduceSub, Nat.reduceEqDiff, le_lim, v_max, em]
    unfold k4__law_right
    rw [q, fm_some, map_dR, BA.max_back]
    rfl
  have e6 : ((if decide ((0 : Int) < (BA.gcdL r : Int)) = true then (1 : Int) else 0)) = ((BA.gcdL (BA.shr r) : Nat) : Int) := by
    rw [BA.gcd_shr]
    by_cases h0 : 0 < BA.gcdL r
    · have : (0 : Int) < (BA.gcdL r : Int) := by omega
      rw [if_pos h0, if_pos (decide_eq_true this)]
      rfl
    · have : ¬ (0 : Int) < (BA.gcdL r : Int) := by omega
      rw [if_neg h0, if_neg (by simpa using this)]
      rfl
  unfold y6__law_right
  rw [sq (s := s13__law_right) (env' := [some (.d .pen), some (.d (.int m)), a2, a3, a4, some (.d (dR r)), a6, a7, a8, some (.d (.int (BA.gcdL r))), some (.d (dR (BA.shr r))), a11, a12]) (S' := S) (by simp only [s13__law_right, x5__law_right, exB, evE, evL, tstE, M.bnd, opt_some, bnd_ret, opt_bnd, mapO, List.length_cons, List.length_nil, List.map_cons, List.map_nil, List.replicate, List.getElem?_cons_zero, List.getElem?_cons_succ, List.cons_append, List.nil_append, if_true, if_false, Bool.false_eq_true, Nat.sub_self, Bool.true_and, Bool.and_true, Bool.false_and, Bool.and_false, Bool.not_true, Bool.not_false, Bool.or_false, Bool.false_or, Bool.true_or, Bool.or_true, decide_true, decide_false, Option.map_some, permD, setW, List.set_cons_zero, List.set_cons_succ, bindP, bindPs, v_rd, v_dat, v_non, v_bl, v_int, v_lst, v_tup, v_str, v_add, v_sub, v_mul, v_fdiv, v_mod, v_cat, v_app, v_neg, v_lt, v_le, v_gt, v_ge, v_eq, v_isN, v_notN, v_in, v_nin, v_inS, v_eqI, v_eqS, v_neI, v_neS, v_lenS, v_lenL, v_lenT, v_repr, v_intI, v_intB, v_abs, v_ty_int_non, v_ty_int_bl, v_ty_int_int, v_ty_int_str, v_ty_int_lst, v_ty_int_tup, v_ty_int_dct, v_ty_bool_non, v_ty_bool_bl, v_ty_bool_int, v_ty_bool_str, v_ty_bool_lst, v_ty_bool_tup, v_ty_bool_dct, v_ty_str_non, v_ty_str_bl, v_ty_str_int, v_ty_str_str, v_ty_str_lst, v_ty_str_tup, v_ty_str_dct, v_ty_list_non, v_ty_list_bl, v_ty_list_int, v_ty_list_str, v_ty_list_lst, v_ty_list_tup, v_ty_list_dct, v_ty_tuple_non, v_ty_tuple_bl, v_ty_tuple_int, v_ty_tuple_str, v_ty_tuple_lst, v_ty_tuple_tup, v_ty_tuple_dct, v_ty_dict_non, v_ty_dict_bl, v_ty_dict_int, v_ty_dict_str, v_ty_dict_lst, v_ty_dict_tup, v_ty_dict_dct, v_isN_non, v_isN_int, v_isN_bl, v_isN_str, v_sliS, v_sliL, v_sliT, v_optN, v_optI, v_meT, v_join, v_walL, v_walT, v_walS, v_rng1, v_rng2, v_enum, v_zip, v_fewF, v_any1, v_any2, Nat.zero_add, Nat.reduceAdd, Nat.reduceLT, Nat.reduceLeDiff, Nat.reduceSub, Nat.reduceEqDiff, le_lim, q1, q2])]
  refine sq1 ?_
  have e7 : tstE (run tbl.T (n + 3)) x6__law_right [some (.d .pen), some (.d (.int m)), a2, a3, a4, some (.d (dR r)), a6, a7, a8, some (.d (.int (BA.gcdL r))), some (.d (dR (BA.shr r))), a11, a12] S = .ret (false, S) := by
    simp only [x6__law_right, exB, evE, evL, tstE, M.bnd, opt_some, bnd_ret, opt_bnd, mapO, List.length_cons, List.length_nil, List.map_cons, List.map_nil, List.replicate, List.getElem?_cons_zero, List.getElem?_cons_succ, List.cons_append, List.nil_append, if_true, if_false, Bool.false_eq_true, Nat.sub_self, Bool.true_and, Bool.and_true, Bool.false_and, Bool.and_false, Bool.not_true, Bool.not_false, Bool.or_false, Bool.false_or, Bool.true_or, Bool.or_true, decide_true, decide_false, Option.map_some, permD, setW, List.set_cons_zero, List.set_cons_succ, bindP, bindPs, v_rd, v_dat, v_non, v_bl, v_int, v_lst, v_tup, v_str, v_add, v_sub, v_mul, v_fdiv, v_mod, v_cat, v_app, v_neg, v_lt, v_le, v_gt, v_ge, v_eq, v_isN, v_notN, v_in, v_nin, v_inS, v_eqI, v_eqS, v_neI, v_neS, v_lenS, v_lenL, v_lenT, v_repr, v_intI, v_intB, v_abs, v_ty_int_non, v_ty_int_bl, v_ty_int_int, v_ty_int_str, v_ty_int_lst, v_ty_int_tup, v_ty_int_dct, v_ty_bool_non, v_ty_bool_bl, v_ty_bool_int, v_ty_bool_str, v_ty_bool_lst, v_ty_bool_tup, v_ty_bool_dct, v_ty_str_non, v_ty_str_bl, v_ty_str_int, v_ty_str_str, v_ty_str_lst, v_ty_str_tup, v_ty_str_dct, v_ty_list_non, v_ty_list_bl, v_ty_list_int, v_ty_list_str, v_ty_list_lst, v_ty_list_tup, v_ty_list_dct, v_ty_tuple_non, v_ty_tuple_bl, v_ty_tuple_int, v_ty_tuple_str, v_ty_tuple_lst, v_ty_tuple_tup, v_ty_tuple_dct, v_ty_dict_non, v_ty_dict_bl, v_ty_dict_int, v_ty_dict_str, v_ty_dict_lst, v_ty_dict_tup, v_ty_dict_dct, v_isN_non, v_isN_int, v_isN_bl, v_isN_str, v_sliS, v_sliL, v_sliT, v_optN, v_optI, v_meT, v_join, v_walL, v_walT, v_walS, v_rng1, v_rng2, v_enum, v_zip, v_fewF, v_any1, v_any2, Nat.zero_add, Nat.reduceAdd, Nat.reduceLT, Nat.reduceLeDiff, Nat.reduceSub, Nat.reduceEqDiff, le_lim, q3, hs, q5, v_neR, eqR_self, q4, e6, beq_self_eq_true]
  rw [s15__law_right, ife_of (k := false) e7, if_neg Bool.false_ne_true, sq0]
theorem x_s16 (h : Rws m 6 rows) (hm : m ≤ 7) : ∃ b5 b9 b10, exB (run tbl.T (n + 3)) s16__law_right [some (.d .pen), some (.d (.int m)), some (.d (.lst (dRs rows))), a3, a4, a5, a6, a7, a8, a9, a10, a11, a12] [] = .ret (.nx, [some (.d .pen), some (.d (.int m)), some (.d (.lst (dRs rows))), a3, a4, b5, a6, a7, a8, b9, b10, a11, a12], []) := by
  obtain ⟨env2, S2, e, rfl, b5, b9, b10, rfl⟩ := ex_for (C := run tbl.T (n + 3)) (chk := false) (pt := .name 5) (k := .val) (src := .cons (.var 2) .nil) (body := y6__law_right) (env := [some (.d .pen), some (.d (.int m)), some (.d (.lst (dRs rows))), a3, a4, a5, a6, a7, a8, a9, a10, a11, a12]) (S := []) (S1 := [])
    (I := fun i env S => S = [] ∧ ∃ b5 b9 b10, env = [some (.d .pen), some (.d (.int m)), some (.d (.lst (dRs rows))), a3, a4, b5, a6, a7, a8, b9, b10, a11, a12]) (ws := [.d (.lst (dRs rows))]) (ds := [.lst (dRs rows)]) (its := dRs rows) (by simp only [exB, evE, evL, tstE, M.bnd, opt_some, bnd_ret, opt_bnd, mapO, List.length_cons, List.length_nil, List.map_cons, List.map_nil, List.replicate, List.getElem?_cons_zero, List.getElem?_cons_succ, List.cons_append, List.nil_append, if_true, if_false, Bool.false_eq_true, Nat.sub_self, Bool.true_and, Bool.and_true, Bool.false_and, Bool.and_false, Bool.not_true, Bool.not_false, Bool.or_false, Bool.false_or, Bool.true_or, Bool.or_true, decide_true, decide_false, Option.map_some, permD, setW, List.set_cons_zero, List.set_cons_succ, bindP, bindPs, v_rd, v_dat, v_non, v_bl, v_int, v_lst, v_tup, v_str, v_add, v_sub, v_mul, v_fdiv, v_mod, v_cat, v_app, v_neg, v_lt, v_le, v_gt, v_ge, v_eq, v_isN, v_notN, v_in, v_nin, v_inS, v_eqI, v_eqS, v_neI, v_neS, v_lenS, v_lenL, v_lenT, v_repr, v_intI, v_intB, v_abs, v_ty_int_non, v_ty_int_bl, v_ty_int_int, v_ty_int_str, v_ty_int_lst, v_ty_int_tup, v_ty_int_dct, v_ty_bool_non, v_ty_bool_bl, v_ty_bool_int, v_ty_bool_str, v_ty_bool_lst, v_ty_bool_tup, v_ty_bool_dct, v_ty_str_non, v_ty_str_bl, v_ty_str_int, v_ty_str_str, v_ty_str_lst, v_ty_str_tup, v_ty_str_dct, v_ty_list_non, v_ty_list_bl, v_ty_list_int, v_ty_list_str, v_ty_list_lst, v_ty_list_tup, v_ty_list_dct, v_ty_tuple_non, v_ty_tuple_bl, v_ty_tuple_int, v_ty_tuple_str, v_ty_tuple_lst, v_ty_tuple_tup, v_ty_tuple_dct, v_ty_dict_non, v_ty_dict_bl, v_ty_dict_int, v_ty_dict_str, v_ty_dict_lst, v_ty_dict_tup, v_ty_dict_dct, v_isN_non, v_isN_int, v_isN_bl, v_isN_str, v_sliS, v_sliL, v_sliT, v_optN, v_optI, v_meT, v_join, v_walL, v_walT, v_walS, v_rng1, v_rng2, v_enum, v_zip, v_fewF, v_any1, v_any2, Nat.zero_add, Nat.reduceAdd, Nat.reduceLT, Nat.reduceLeDiff, Nat.reduceSub, Nat.reduceEqDiff, le_lim]) rfl rfl rfl ⟨rfl, a5, a9, a10, rfl⟩ (fun i d hd env S hI => by
      obtain ⟨hS, b5, b9, b10, he⟩ := hI
      subst hS he
      obtain ⟨r, hr, rfl⟩ := getElem?_map_some hd
      have hr := List.mem_of_getElem? hr
      exact ⟨[some (.d .pen), some (.d (.int m)), some (.d (.lst (dRs rows))), a3, a4, some (.d (dR r)), a6, a7, a8, b9, b10, a11, a12], _, [], by simp only [exB, evE, evL, tstE, M.bnd, opt_some, bnd_ret, opt_bnd, mapO, List.length_cons, List.length_nil, List.map_cons, List.map_nil, List.replicate, List.getElem?_cons_zero, List.getElem?_cons_succ, List.cons_append, List.nil_append, if_true, if_false, Bool.false_eq_true, Nat.sub_self, Bool.true_and, Bool.and_true, Bool.false_and, Bool.and_false, Bool.not_true, Bool.not_false, Bool.or_false, Bool.false_or, Bool.true_or, Bool.or_true, decide_true, decide_false, Option.map_some, permD, setW, List.set_cons_zero, List.set_cons_succ, bindP, bindPs, v_rd, v_dat, v_non, v_bl, v_int, v_lst, v_tup, v_str, v_add, v_sub, v_mul, v_fdiv, v_mod, v_cat, v_app, v_neg, v_lt, v_le, v_gt, v_ge, v_eq, v_isN, v_notN, v_in, v_nin, v_inS, v_eqI, v_eqS, v_neI, v_neS, v_lenS, v_lenL, v_lenT, v_repr, v_intI, v_intB, v_abs, v_ty_int_non, v_ty_int_bl, v_ty_int_int, v_ty_int_str, v_ty_int_lst, v_ty_int_tup, v_ty_int_dct, v_ty_bool_non, v_ty_bool_bl, v_ty_bool_int, v_ty_bool_str, v_ty_bool_lst, v_ty_bool_tup, v_ty_bool_dct, v_ty_str_non, v_ty_str_bl, v_ty_str_int, v_ty_str_str, v_ty_str_lst, v_ty_str_tup, v_ty_str_dct, v_ty_list_non, v_ty_list_bl, v_ty_list_int, v_ty_list_str, v_ty_list_lst, v_ty_list_tup, v_ty_list_dct, v_ty_tuple_non, v_ty_tuple_bl, v_ty_tuple_int, v_ty_tuple_str, v_ty_tuple_lst, v_ty_tuple_tup, v_ty_tuple_dct, v_ty_dict_non, v_ty_dict_bl, v_ty_dict_int, v_ty_dict_str, v_ty_dict_lst, v_ty_dict_tup, v_ty_dict_dct, v_isN_non, v_isN_int, v_isN_bl, v_isN_str, v_sliS, v_sliL, v_sliT, v_optN, v_optI, v_meT, v_join, v_walL, v_walT, v_walS, v_rng1, v_rng2, v_enum, v_zip, v_fewF, v_any1, v_any2, Nat.zero_add, Nat.reduceAdd, Nat.reduceLT, Nat.reduceLeDiff, Nat.reduceSub, Nat.reduceEqDiff, le_lim], x_turn h hm hr, rfl, _, _, _, rfl⟩)
  exact ⟨b5, b9, b10, e⟩
end
end RL.T
end

section
set_option Elab.async false
set_option linter.all false
set_option maxRecDepth 100000
set_option maxHeartbeats 400000
namespace RL.T
open PySem L2
section
variable {n m : Nat} {rows : BA.Rows} {S : Sto} {a2 a3 a4 a5 a6 a7 a8 a9 a10 a11 a12 : Option W}
theorem rng_of {m : Nat} (hm : m ≤ 1000) : walkD .range [.int (m : Int)] = some (upD 0 m) := by
  show (if small (m : Int) then some (upD 0 (m : Int).toNat) else none) = _
  rw [if_pos (by unfold small; rw [Bool.and_eq_true, decide_eq_true_eq, decide_eq_true_eq]; omega)]
  rfl
theorem upD_len (m : Nat) : (upD 0 m).length = m := by rw [show upD 0 m = (List.range' 0 m).map fun (i : Nat) => D.int (i : Int) from upD_map m 0]; simp
theorem few_of {m : Nat} (hm : m ≤ 1000) : fewD true (upD 0 m) = true := by
  unfold fewD
  rw [upD_len]
  simp
  unfold lim
  omega
/-- a comprehension that draws ints below 2 ^ 140 -/
theorem wp_ints {C : Calls} {elt : Ex} {env : EnvD} (hm : m ≤ 1000) (h1 : env[1]? = some (some (.d (.int m)))) (h11 : 11 < env.length) (h : ∀ d, (evE C elt (env.set 11 (some (.d d))) S).wp (fun r => r.2 = S ∧ ∃ p : Int, r.1 = .d (.int p) ∧ p.natAbs < 2 ^ 140) fun _ _ => False) :
    (evE C (.comp false true (.name 11) .range (.cons (.var 1) (.nil)) (.dat (.bl true)) elt) env S).wp (fun r => r.2 = S ∧ ∃ l : List Int, r.1 = .d (dR l) ∧ l.length = m ∧ Sm 140 l) NoE := by
  refine wp_comp (ws := [.d (.int m)]) (ds := [.int m]) (its := upD 0 m) (S1 := S) (by simp only [exB, evE, evL, tstE, M.bnd, opt_some, bnd_ret, opt_bnd, mapO, List.length_cons, List.length_nil, List.map_cons, List.map_nil, List.replicate, List.getElem?_cons_zero, List.getElem?_cons_succ, List.cons_append, List.nil_append, if_true, if_false, Bool.false_eq_true, Nat.sub_self, Bool.true_and, Bool.and_true, Bool.false_and, Bool.and_false, Bool.not_true, Bool.not_false, Bool.or_false, Bool.false_or, Bool.true_or, Bool.or_true, decide_true, decide_false, Option.map_some, permD, setW, List.set_cons_zero, List.set_cons_succ, bindP, bindPs, v_rd, v_dat, v_non, v_bl, v_int, v_lst, v_tup, v_str, v_add, v_sub, v_mul, v_fdiv, v_mod, v_cat, v_app, v_neg, v_lt, v_le, v_gt, v_ge, v_eq, v_isN, v_notN, v_in, v_nin, v_inS, v_eqI, v_eqS, v_neI, v_neS, v_lenS, v_lenL, v_lenT, v_repr, v_intI, v_intB, v_abs, v_ty_int_non, v_ty_int_bl, v_ty_int_int, v_ty_int_str, v_ty_int_lst, v_ty_int_tup, v_ty_int_dct, v_ty_bool_non, v_ty_bool_bl, v_ty_bool_int, v_ty_bool_str, v_ty_bool_lst, v_ty_bool_tup, v_ty_bool_dct, v_ty_str_non, v_ty_str_bl, v_ty_str_int, v_ty_str_str, v_ty_str_lst, v_ty_str_tup, v_ty_str_dct, v_ty_list_non, v_ty_list_bl, v_ty_list_int, v_ty_list_str, v_ty_list_lst, v_ty_list_tup, v_ty_list_dct, v_ty_tuple_non, v_ty_tuple_bl, v_ty_tuple_int, v_ty_tuple_str, v_ty_tuple_lst, v_ty_tuple_tup, v_ty_tuple_dct, v_ty_dict_non, v_ty_dict_bl, v_ty_dict_int, v_ty_dict_str, v_ty_dict_lst, v_ty_dict_tup, v_ty_dict_dct, v_isN_non, v_isN_int, v_isN_bl, v_isN_str, v_sliS, v_sliL, v_sliT, v_optN, v_optI, v_meT, v_join, v_walL, v_walT, v_walS, v_rng1, v_rng2, v_enum, v_zip, v_fewF, v_any1, v_any2, Nat.zero_add, Nat.reduceAdd, Nat.reduceLT, Nat.reduceLeDiff, Nat.reduceSub, Nat.reduceEqDiff, le_lim, h1]) rfl (rng_of hm) (few_of hm) ?_
  refine M.wp_mono _ (compL_wpE (P := fun d => ∃ p : Int, d = .int p ∧ p.natAbs < 2 ^ 140) (upD 0 m) [] (fun d hd => ?_) (by rw [upD_len]; simp; unfold lim; omega) fun y hy => by cases hy) (fun r q => ?_) fun _ _ q => q
  · refine ⟨env.set 11 (some (.d d)), (by simp only [bindP]; rw [if_pos h11]), ?_⟩
    unfold elF
    simp only [evE, bnd_ret, rdW, opt_some, truD, if_true]
    rw [M.wp_bnd]
    refine M.wp_mono _ (h d) (fun r q => ?_) fun _ _ q => q
    obtain ⟨w, S'⟩ := r
    obtain ⟨q1, p, q2, q3⟩ := q
    have q1 : S' = S := q1
    have q2 : w = .d (.int p) := q2
    subst q1 q2
    exact ⟨rfl, _, rfl, p, rfl, q3⟩
  · obtain ⟨q1, q2, q3⟩ := q
    obtain ⟨l, e, hr⟩ := ints_of q2
    rw [upD_len, List.length_nil, Nat.zero_add] at q3
    exact ⟨q1, l, by rw [e]; rfl, by rw [← q3, e, List.length_map], hr⟩
theorem w_k5 (hm : m ≤ 1000) : (evE (run tbl.T (n + 3)) k5__law_right [some (.d .pen), some (.d (.int m)), a2, a3, a4, a5, a6, a7, a8, a9, a10, a11, a12] S).wp (fun r => r.2 = S ∧ ∃ l : List Int, r.1 = .d (dR l) ∧ l.length = m ∧ Sm 140 l) NoE := by
  unfold k5__law_right
  refine wp_ints hm rfl (by simp) fun d => ?_
  simp only [exB, evE, evL, tstE, M.bnd, opt_some, bnd_ret, opt_bnd, mapO, List.length_cons, List.length_nil, List.map_cons, List.map_nil, List.replicate, List.getElem?_cons_zero, List.getElem?_cons_succ, List.cons_append, List.nil_append, if_true, if_false, Bool.false_eq_true, Nat.sub_self, Bool.true_and, Bool.and_true, Bool.false_and, Bool.and_false, Bool.not_true, Bool.not_false, Bool.or_false, Bool.false_or, Bool.true_or, Bool.or_true, decide_true, decide_false, Option.map_some, permD, setW, List.set_cons_zero, List.set_cons_succ, bindP, bindPs, v_rd, v_dat, v_non, v_bl, v_int, v_lst, v_tup, v_str, v_add, v_sub, v_mul, v_fdiv, v_mod, v_cat, v_app, v_neg, v_lt, v_le, v_gt, v_ge, v_eq, v_isN, v_notN, v_in, v_nin, v_inS, v_eqI, v_eqS, v_neI, v_neS, v_lenS, v_lenL, v_lenT, v_repr, v_intI, v_intB, v_abs, v_ty_int_non, v_ty_int_bl, v_ty_int_int, v_ty_int_str, v_ty_int_lst, v_ty_int_tup, v_ty_int_dct, v_ty_bool_non, v_ty_bool_bl, v_ty_bool_int, v_ty_bool_str, v_ty_bool_lst, v_ty_bool_tup, v_ty_bool_dct, v_ty_str_non, v_ty_str_bl, v_ty_str_int, v_ty_str_str, v_ty_str_lst, v_ty_str_tup, v_ty_str_dct, v_ty_list_non, v_ty_list_bl, v_ty_list_int, v_ty_list_str, v_ty_list_lst, v_ty_list_tup, v_ty_list_dct, v_ty_tuple_non, v_ty_tuple_bl, v_ty_tuple_int, v_ty_tuple_str, v_ty_tuple_lst, v_ty_tuple_tup, v_ty_tuple_dct, v_ty_dict_non, v_ty_dict_bl, v_ty_dict_int, v_ty_dict_str, v_ty_dict_lst, v_ty_dict_tup, v_ty_dict_dct, v_isN_non, v_isN_int, v_isN_bl, v_isN_str, v_sliS, v_sliL, v_sliT, v_optN, v_optI, v_meT, v_join, v_walL, v_walT, v_walS, v_rng1, v_rng2, v_enum, v_zip, v_fewF, v_any1, v_any2, Nat.zero_add, Nat.reduceAdd, Nat.reduceLT, Nat.reduceLeDiff, Nat.reduceSub, Nat.reduceEqDiff, le_lim]
  refine wp_draw (by decide) (by decide) fun v v0 v1 => ?_
  exact ⟨rfl, v - 49, rfl, Nat.lt_trans (show (v - 49).natAbs < 2 ^ 6 by omega) (Nat.pow_lt_pow_right (by decide) (by decide))⟩
theorem w_k6 (hm : m ≤ 1000) : (evE (run tbl.T (n + 3)) k6__law_right [some (.d .pen), some (.d (.int m)), a2, a3, a4, a5, a6, a7, a8, a9, a10, a11, a12] S).wp (fun r => r.2 = S ∧ ∃ l : List Int, r.1 = .d (dR l) ∧ l.length = m ∧ Sm 140 l) NoE := by
  have p40 : binD .pow (.int 10) (.int 40) = some (.int (10 ^ 40)) := by
    rw [v_pow, if_pos (.inl ⟨by decide, by decide, by decide⟩)]
    rfl
  unfold k6__law_right
  refine wp_ints hm rfl (by simp) fun d => ?_
  simp only [exB, evE, evL, tstE, M.bnd, opt_some, bnd_ret, opt_bnd, mapO, List.length_cons, List.length_nil, List.map_cons, List.map_nil, List.replicate, List.getElem?_cons_zero, List.getElem?_cons_succ, List.cons_append, List.nil_append, if_true, if_false, Bool.false_eq_true, Nat.sub_self, Bool.true_and, Bool.and_true, Bool.false_and, Bool.and_false, Bool.not_true, Bool.not_false, Bool.or_false, Bool.false_or, Bool.true_or, Bool.or_true, decide_true, decide_false, Option.map_some, permD, setW, List.set_cons_zero, List.set_cons_succ, bindP, bindPs, v_rd, v_dat, v_non, v_bl, v_int, v_lst, v_tup, v_str, v_add, v_sub, v_mul, v_fdiv, v_mod, v_cat, v_app, v_neg, v_lt, v_le, v_gt, v_ge, v_eq, v_isN, v_notN, v_in, v_nin, v_inS, v_eqI, v_eqS, v_neI, v_neS, v_lenS, v_lenL, v_lenT, v_repr, v_intI, v_intB, v_abs, v_ty_int_non, v_ty_int_bl, v_ty_int_int, v_ty_int_str, v_ty_int_lst, v_ty_int_tup, v_ty_int_dct, v_ty_bool_non, v_ty_bool_bl, v_ty_bool_int, v_ty_bool_str, v_ty_bool_lst, v_ty_bool_tup, v_ty_bool_dct, v_ty_str_non, v_ty_str_bl, v_ty_str_int, v_ty_str_str, v_ty_str_lst, v_ty_str_tup, v_ty_str_dct, v_ty_list_non, v_ty_list_bl, v_ty_list_int, v_ty_list_str, v_ty_list_lst, v_ty_list_tup, v_ty_list_dct, v_ty_tuple_non, v_ty_tuple_bl, v_ty_tuple_int, v_ty_tuple_str, v_ty_tuple_lst, v_ty_tuple_tup, v_ty_tuple_dct, v_ty_dict_non, v_ty_dict_bl, v_ty_dict_int, v_ty_dict_str, v_ty_dict_lst, v_ty_dict_tup, v_ty_dict_dct, v_isN_non, v_isN_int, v_isN_bl, v_isN_str, v_sliS, v_sliL, v_sliT, v_optN, v_optI, v_meT, v_join, v_walL, v_walT, v_walS, v_rng1, v_rng2, v_enum, v_zip, v_fewF, v_any1, v_any2, Nat.zero_add, Nat.reduceAdd, Nat.reduceLT, Nat.reduceLeDiff, Nat.reduceSub, Nat.reduceEqDiff, le_lim, r_pickL, p40]
  refine wp_dL rfl (by simp) (by simp) fun d hd => ?_
  simp only [List.mem_cons, List.not_mem_nil, or_false] at hd
  rcases hd with e | e | e
  · subst e; exact ⟨rfl, _, rfl, by decide +kernel⟩
  · subst e; exact ⟨rfl, _, rfl, by decide +kernel⟩
  · subst e; exact ⟨rfl, _, rfl, by decide +kernel⟩
theorem x_s17 (hm : m ≤ 1000) : Tri (run tbl.T (n + 3)) s17__law_right [some (.d .pen), some (.d (.int m)), a2, a3, a4, a5, a6, a7, a8, a9, a10, a11, a12] S (NX fun env' S' => S' = S ∧ ∃ a b : List Int, env' = [some (.d .pen), some (.d (.int m)), a2, a3, some (.d (dR b)), a5, a6, a7, some (.d (dR a)), a9, a10, a11, a12] ∧ a.length = m ∧ b.length = m ∧ Sm 140 a ∧ Sm 140 b) NoE := by
  constructor
  unfold s17__law_right x7__law_right
  simp only [exB, evE, evL, bnd_assoc, opt_bnd, bnd_ret]
  rw [M.wp_bnd]
  refine M.wp_mono _ (w_k5 hm) (fun r q => ?_) fun _ _ q => q
  obtain ⟨w1, S1⟩ := r
  obtain ⟨q1, a, q2, q3, q4⟩ := q
  have q1 : S1 = S := q1
  have q2 : w1 = .d (dR a) := q2
  subst q1 q2
  rw [M.wp_bnd]
  refine M.wp_mono _ (w_k6 hm) (fun r q => ?_) fun _ _ q => q
  obtain ⟨w2, S2⟩ := r
  obtain ⟨p1, b, p2, p3, p4⟩ := q
  have p1 : S2 = S1 := p1
  have p2 : w2 = .d (dR b) := p2
  subst p1 p2
  simp only [exB, evE, evL, tstE, M.bnd, opt_some, bnd_ret, opt_bnd, mapO, List.length_cons, List.length_nil, List.map_cons, List.map_nil, List.replicate, List.getElem?_cons_zero, List.getElem?_cons_succ, List.cons_append, List.nil_append, if_true, if_false, Bool.false_eq_true, Nat.sub_self, Bool.true_and, Bool.and_true, Bool.false_and, Bool.and_false, Bool.not_true, Bool.not_false, Bool.or_false, Bool.false_or, Bool.true_or, Bool.or_true, decide_true, decide_false, Option.map_some, permD, setW, List.set_cons_zero, List.set_cons_succ, bindP, bindPs, v_rd, v_dat, v_non, v_bl, v_int, v_lst, v_tup, v_str, v_add, v_sub, v_mul, v_fdiv, v_mod, v_cat, v_app, v_neg, v_lt, v_le, v_gt, v_ge, v_eq, v_isN, v_notN, v_in, v_nin, v_inS, v_eqI, v_eqS, v_neI, v_neS, v_lenS, v_lenL, v_lenT, v_repr, v_intI, v_intB, v_abs, v_ty_int_non, v_ty_int_bl, v_ty_int_int, v_ty_int_str, v_ty_int_lst, v_ty_int_tup, v_ty_int_dct, v_ty_bool_non, v_ty_bool_bl, v_ty_bool_int, v_ty_bool_str, v_ty_bool_lst, v_ty_bool_tup, v_ty_bool_dct, v_ty_str_non, v_ty_str_bl, v_ty_str_int, v_ty_str_str, v_ty_str_lst, v_ty_str_tup, v_ty_str_dct, v_ty_list_non, v_ty_list_bl, v_ty_list_int, v_ty_list_str, v_ty_list_lst, v_ty_list_tup, v_ty_list_dct, v_ty_tuple_non, v_ty_tuple_bl, v_ty_tuple_int, v_ty_tuple_str, v_ty_tuple_lst, v_ty_tuple_tup, v_ty_tuple_dct, v_ty_dict_non, v_ty_dict_bl, v_ty_dict_int, v_ty_dict_str, v_ty_dict_lst, v_ty_dict_tup, v_ty_dict_dct, v_isN_non, v_isN_int, v_isN_bl, v_isN_str, v_sliS, v_sliL, v_sliT, v_optN, v_optI, v_meT, v_join, v_walL, v_walT, v_walS, v_rng1, v_rng2, v_enum, v_zip, v_fewF, v_any1, v_any2, Nat.zero_add, Nat.reduceAdd, Nat.reduceLT, Nat.reduceLeDiff, Nat.reduceSub, Nat.reduceEqDiff, le_lim]
  exact ⟨rfl, rfl, a, b, rfl, q3, p3, q4, p4⟩
theorem x_s18 {a b : List Int} (ha : a.length = m) (hb : b.length = m) (sa : Sm 140 a) (sb : Sm 140 b) (hm : m ≤ 7) : exB (run tbl.T (n + 3)) s18__law_right [some (.d .pen), some (.d (.int m)), a2, a3, some (.d (dR b)), a5, a6, a7, some (.d (dR a)), a9, a10, a11, a12] S = .ret (.rt (.d (.bl true)), [some (.d .pen), some (.d (.int m)), a2, a3, some (.d (dR b)), a5, a6, a7, some (.d (dR a)), a9, a10, a11, a12], S) := by
  have q1 := r_product (n + 2) (a := a) (b := b) 140 (by decide) (by decide) sa sb (by omega)
  have q2 := r_product (n + 2) (a := b) (b := a) 140 (by decide) (by decide) sb sa (by omega)
  have q3 := r_dot (n + 2) (a := a) (b := b) 140 (by decide) (by decide) sa sb (by omega)
  rw [dot_comm b a] at q2
  have bd : (BA.dot a b).natAbs < 2 ^ 1000 := by
    have h := dot_bound sa sb
    have h1 : a.length * (2 ^ 140 * 2 ^ 140) ≤ 7 * (2 ^ 140 * 2 ^ 140) := Nat.mul_le_mul_right _ (by omega)
    have h2 : 7 * (2 ^ 140 * 2 ^ 140) < 2 ^ 1000 := by decide +kernel
    omega
  obtain ⟨s, hs⟩ := repr2 bd bd
  have e2 : binD .mul (.lst [.int (BA.dot a b)]) (.int 2) = some (.lst [.int (BA.dot a b), .int (BA.dot a b)]) := by
    rw [v_mulL, if_pos ⟨⟨by decide, by decide⟩, show 1 * 2 ≤ lim by decide⟩]
    rfl
  simp only [s18__law_right, x8__law_right, exB, evE, evL, tstE, M.bnd, opt_some, bnd_ret, opt_bnd, mapO, List.length_cons, List.length_nil, List.map_cons, List.map_nil, List.replicate, List.getElem?_cons_zero, List.getElem?_cons_succ, List.cons_append, List.nil_append, if_true, if_false, Bool.false_eq_true, Nat.sub_self, Bool.true_and, Bool.and_true, Bool.false_and, Bool.and_false, Bool.not_true, Bool.not_false, Bool.or_false, Bool.false_or, Bool.true_or, Bool.or_true, decide_true, decide_false, Option.map_some, permD, setW, List.set_cons_zero, List.set_cons_succ, bindP, bindPs, v_rd, v_dat, v_non, v_bl, v_int, v_lst, v_tup, v_str, v_add, v_sub, v_mul, v_fdiv, v_mod, v_cat, v_app, v_neg, v_lt, v_le, v_gt, v_ge, v_eq, v_isN, v_notN, v_in, v_nin, v_inS, v_eqI, v_eqS, v_neI, v_neS, v_lenS, v_lenL, v_lenT, v_repr, v_intI, v_intB, v_abs, v_ty_int_non, v_ty_int_bl, v_ty_int_int, v_ty_int_str, v_ty_int_lst, v_ty_int_tup, v_ty_int_dct, v_ty_bool_non, v_ty_bool_bl, v_ty_bool_int, v_ty_bool_str, v_ty_bool_lst, v_ty_bool_tup, v_ty_bool_dct, v_ty_str_non, v_ty_str_bl, v_ty_str_int, v_ty_str_str, v_ty_str_lst, v_ty_str_tup, v_ty_str_dct, v_ty_list_non, v_ty_list_bl, v_ty_list_int, v_ty_list_str, v_ty_list_lst, v_ty_list_tup, v_ty_list_dct, v_ty_tuple_non, v_ty_tuple_bl, v_ty_tuple_int, v_ty_tuple_str, v_ty_tuple_lst, v_ty_tuple_tup, v_ty_tuple_dct, v_ty_dict_non, v_ty_dict_bl, v_ty_dict_int, v_ty_dict_str, v_ty_dict_lst, v_ty_dict_tup, v_ty_dict_dct, v_isN_non, v_isN_int, v_isN_bl, v_isN_str, v_sliS, v_sliL, v_sliT, v_optN, v_optI, v_meT, v_join, v_walL, v_walT, v_walS, v_rng1, v_rng2, v_enum, v_zip, v_fewF, v_any1, v_any2, Nat.zero_add, Nat.reduceAdd, Nat.reduceLT, Nat.reduceLeDiff, Nat.reduceSub, Nat.reduceEqDiff, le_lim, q1, q2, q3, e2, hs, beq_self_eq_true]
theorem x_s0 : Tri (run tbl.T (n + 3)) s0__law_right [some (.d .pen), none, none, none, none, none, none, none, none, none, none, none, none] [] (NX fun env' S' => S' = [] ∧ ∃ m : Nat, m ≤ 7 ∧ env' = [some (.d .pen), some (.d (.int m)), none, none, none, none, none, none, none, none, none, none, none]) NoE := by
  constructor
  simp only [s0__law_right, x0__law_right, exB, evE, evL, tstE, M.bnd, opt_some, bnd_ret, opt_bnd, mapO, List.length_cons, List.length_nil, List.map_cons, List.map_nil, List.replicate, List.getElem?_cons_zero, List.getElem?_cons_succ, List.cons_append, List.nil_append, if_true, if_false, Bool.false_eq_true, Nat.sub_self, Bool.true_and, Bool.and_true, Bool.false_and, Bool.and_false, Bool.not_true, Bool.not_false, Bool.or_false, Bool.false_or, Bool.true_or, Bool.or_true, decide_true, decide_false, Option.map_some, permD, setW, List.set_cons_zero, List.set_cons_succ, bindP, bindPs, v_rd, v_dat, v_non, v_bl, v_int, v_lst, v_tup, v_str, v_add, v_sub, v_mul, v_fdiv, v_mod, v_cat, v_app, v_neg, v_lt, v_le, v_gt, v_ge, v_eq, v_isN, v_notN, v_in, v_nin, v_inS, v_eqI, v_eqS, v_neI, v_neS, v_lenS, v_lenL, v_lenT, v_repr, v_intI, v_intB, v_abs, v_ty_int_non, v_ty_int_bl, v_ty_int_int, v_ty_int_str, v_ty_int_lst, v_ty_int_tup, v_ty_int_dct, v_ty_bool_non, v_ty_bool_bl, v_ty_bool_int, v_ty_bool_str, v_ty_bool_lst, v_ty_bool_tup, v_ty_bool_dct, v_ty_str_non, v_ty_str_bl, v_ty_str_int, v_ty_str_str, v_ty_str_lst, v_ty_str_tup, v_ty_str_dct, v_ty_list_non, v_ty_list_bl, v_ty_list_int, v_ty_list_str, v_ty_list_lst, v_ty_list_tup, v_ty_list_dct, v_ty_tuple_non, v_ty_tuple_bl, v_ty_tuple_int, v_ty_tuple_str, v_ty_tuple_lst, v_ty_tuple_tup, v_ty_tuple_dct, v_ty_dict_non, v_ty_dict_bl, v_ty_dict_int, v_ty_dict_str, v_ty_dict_lst, v_ty_dict_tup, v_ty_dict_dct, v_isN_non, v_isN_int, v_isN_bl, v_isN_str, v_sliS, v_sliL, v_sliT, v_optN, v_optI, v_meT, v_join, v_walL, v_walT, v_walS, v_rng1, v_rng2, v_enum, v_zip, v_fewF, v_any1, v_any2, Nat.zero_add, Nat.reduceAdd, Nat.reduceLT, Nat.reduceLeDiff, Nat.reduceSub, Nat.reduceEqDiff, le_lim]
  refine wp_draw (by decide) (by decide) fun v v0 v1 => ?_
  refine ⟨rfl, rfl, (1 + v).toNat, by omega, ?_⟩
  have e : ((1 + v).toNat : Int) = 1 + v := by omega
  rw [e]
theorem right' : Tri (run tbl.T (n + 3)) b__law_right [some (.d .pen), none, none, none, none, none, none, none, none, none, none, none, none] [] (fun r => ∃ d, r.1 = .rt (.d d) ∧ d = .bl true) NoE := by
  unfold b__law_right
  refine Tri.seq _ x_s0 ?_
  rintro _ _ ⟨rfl, m, hm, rfl⟩
  refine Tri.seq _ (Tri.asgCall (ws := [.d .pen, .d (.int m)]) (ds := [.pen, .int m]) (S1 := []) (by simp only [exB, evE, evL, tstE, M.bnd, opt_some, bnd_ret, opt_bnd, mapO, List.length_cons, List.length_nil, List.map_cons, List.map_nil, List.replicate, List.getElem?_cons_zero, List.getElem?_cons_succ, List.cons_append, List.nil_append, if_true, if_false, Bool.false_eq_true, Nat.sub_self, Bool.true_and, Bool.and_true, Bool.false_and, Bool.and_false, Bool.not_true, Bool.not_false, Bool.or_false, Bool.false_or, Bool.true_or, Bool.or_true, decide_true, decide_false, Option.map_some, permD, setW, List.set_cons_zero, List.set_cons_succ, bindP, bindPs, v_rd, v_dat, v_non, v_bl, v_int, v_lst, v_tup, v_str, v_add, v_sub, v_mul, v_fdiv, v_mod, v_cat, v_app, v_neg, v_lt, v_le, v_gt, v_ge, v_eq, v_isN, v_notN, v_in, v_nin, v_inS, v_eqI, v_eqS, v_neI, v_neS, v_lenS, v_lenL, v_lenT, v_repr, v_intI, v_intB, v_abs, v_ty_int_non, v_ty_int_bl, v_ty_int_int, v_ty_int_str, v_ty_int_lst, v_ty_int_tup, v_ty_int_dct, v_ty_bool_non, v_ty_bool_bl, v_ty_bool_int, v_ty_bool_str, v_ty_bool_lst, v_ty_bool_tup, v_ty_bool_dct, v_ty_str_non, v_ty_str_bl, v_ty_str_int, v_ty_str_str, v_ty_str_lst, v_ty_str_tup, v_ty_str_dct, v_ty_list_non, v_ty_list_bl, v_ty_list_int, v_ty_list_str, v_ty_list_lst, v_ty_list_tup, v_ty_list_dct, v_ty_tuple_non, v_ty_tuple_bl, v_ty_tuple_int, v_ty_tuple_str, v_ty_tuple_lst, v_ty_tuple_tup, v_ty_tuple_dct, v_ty_dict_non, v_ty_dict_bl, v_ty_dict_int, v_ty_dict_str, v_ty_dict_lst, v_ty_dict_tup, v_ty_dict_dct, v_isN_non, v_isN_int, v_isN_bl, v_isN_str, v_sliS, v_sliL, v_sliT, v_optN, v_optI, v_meT, v_join, v_walL, v_walT, v_walS, v_rng1, v_rng2, v_enum, v_zip, v_fewF, v_any1, v_any2, Nat.zero_add, Nat.reduceAdd, Nat.reduceLT, Nat.reduceLeDiff, Nat.reduceSub, Nat.reduceEqDiff, le_lim]) rfl (r_rows (n := n + 1) (show m ≤ 1000 by omega)) (by simp)) ?_
  rintro _ _ ⟨rfl, d, ⟨rows, rfl, h⟩, rfl⟩
  simp only [List.set_cons_zero, List.set_cons_succ]
  refine Tri.seqR (x_s2 h hm) ?_
  refine Tri.seqR (x_s4 h hm) ?_
  refine Tri.seqR (x_s5 h hm) ?_
  refine Tri.seqR (x_s7 h hm) ?_
  obtain ⟨b4, b8, e10⟩ := x_s10 (n := n) (a4 := none) (a5 := none) (a6 := some (.d (.lst (dRs rows)))) (a7 := some (.d (.int ((BA.runR rows m).k : Nat)))) (a8 := none) (a9 := none) (a10 := none) (a11 := none) (a12 := none) h hm
  refine Tri.seqR e10 ?_
  refine Tri.seqR x_s12 ?_
  obtain ⟨b5, b9, b10, e16⟩ := x_s16 (n := n) (a3 := some (.d (.lst (dRs (BA.nts rows m))))) (a4 := b4) (a5 := none) (a6 := some (.d (.lst (dRs rows)))) (a7 := some (.d (.int ((BA.runR rows m).k : Nat)))) (a8 := b8) (a9 := none) (a10 := none) (a11 := none) (a12 := none) h hm
  refine Tri.seqR e16 ?_
  refine Tri.seq _ (x_s17 (show m ≤ 1000 by omega)) ?_
  rintro _ _ ⟨rfl, a, b, rfl, h1, h2, h3, h4⟩
  exact Tri.ret (x_s18 h1 h2 h3 h4 hm) ⟨_, rfl, rfl⟩
theorem r_right : Wp (dcall (run tbl.T (n + 4)) 12 [.pen]) (fun d => d = .bl true) NoE :=
  fn_wp (g := ⟨1, 13, b__law_right⟩) T12 rfl right'
end
/-! the law -/
theorem turn {a2 : Option W} : Tri (run tbl.T 4) l_0_body [none, some (.d .pen), a2] [] (NX fun env' S' => S' = [] ∧ ∃ a2, env' = [none, some (.d .pen), a2]) NoE := by
  unfold l_0_body
  refine Tri.seq _ (Tri.ifNotCall (ws := [.d .pen]) (ds := [.pen]) (S1 := []) (by simp only [exB, evE, evL, tstE, M.bnd, opt_some, bnd_ret, opt_bnd, mapO, List.length_cons, List.length_nil, List.map_cons, List.map_nil, List.replicate, List.getElem?_cons_zero, List.getElem?_cons_succ, List.cons_append, List.nil_append, if_true, if_false, Bool.false_eq_true, Nat.sub_self, Bool.true_and, Bool.and_true, Bool.false_and, Bool.and_false, Bool.not_true, Bool.not_false, Bool.or_false, Bool.false_or, Bool.true_or, Bool.or_true, decide_true, decide_false, Option.map_some, permD, setW, List.set_cons_zero, List.set_cons_succ, bindP, bindPs, v_rd, v_dat, v_non, v_bl, v_int, v_lst, v_tup, v_str, v_add, v_sub, v_mul, v_fdiv, v_mod, v_cat, v_app, v_neg, v_lt, v_le, v_gt, v_ge, v_eq, v_isN, v_notN, v_in, v_nin, v_inS, v_eqI, v_eqS, v_neI, v_neS, v_lenS, v_lenL, v_lenT, v_repr, v_intI, v_intB, v_abs, v_ty_int_non, v_ty_int_bl, v_ty_int_int, v_ty_int_str, v_ty_int_lst, v_ty_int_tup, v_ty_int_dct, v_ty_bool_non, v_ty_bool_bl, v_ty_bool_int, v_ty_bool_str, v_ty_bool_lst, v_ty_bool_tup, v_ty_bool_dct, v_ty_str_non, v_ty_str_bl, v_ty_str_int, v_ty_str_str, v_ty_str_lst, v_ty_str_tup, v_ty_str_dct, v_ty_list_non, v_ty_list_bl, v_ty_list_int, v_ty_list_str, v_ty_list_lst, v_ty_list_tup, v_ty_list_dct, v_ty_tuple_non, v_ty_tuple_bl, v_ty_tuple_int, v_ty_tuple_str, v_ty_tuple_lst, v_ty_tuple_tup, v_ty_tuple_dct, v_ty_dict_non, v_ty_dict_bl, v_ty_dict_int, v_ty_dict_str, v_ty_dict_lst, v_ty_dict_tup, v_ty_dict_dct, v_isN_non, v_isN_int, v_isN_bl, v_isN_str, v_sliS, v_sliL, v_sliT, v_optN, v_optI, v_meT, v_join, v_walL, v_walT, v_walS, v_rng1, v_rng2, v_enum, v_zip, v_fewF, v_any1, v_any2, Nat.zero_add, Nat.reduceAdd, Nat.reduceLT, Nat.reduceLeDiff, Nat.reduceSub, Nat.reduceEqDiff, le_lim]) rfl (r_right (n := 0))) ?_
  rintro _ _ ⟨rfl, rfl⟩
  exact Tri.nil ⟨rfl, a2, rfl⟩
theorem last {a2 : Option W} : exB (run tbl.T 4) l_1 [none, some (.d .pen), a2] [] = .ret (.rt (.d (.bl true)), [none, some (.d .pen), a2], []) := by kernel_rfl
theorem law_true : Tri (run tbl.T 4) b_law ((List.replicate N_law.length none).set 1 (some (.d .pen))) [] (fun r => r.1 = .rt (.d (.bl true))) fun _ _ => False := by
  have e : ((List.replicate N_law.length none).set 1 (some (.d .pen)) : EnvD) = [none, some (.d .pen), none] := rfl
  rw [e]
  unfold b_law
  refine Tri.seq (fun env' S' => S' = [] ∧ ∃ a2, env' = [none, some (.d .pen), a2]) ?_ ?_
  · refine Tri.forr (ws := [.d (.int 6)]) (ds := [.int 6]) (its := upD 0 6) (fun env' S' => S' = [] ∧ ∃ a2, env' = [none, some (.d .pen), a2]) (by simp only [exB, evE, evL, tstE, M.bnd, opt_some, bnd_ret, opt_bnd, mapO, List.length_cons, List.length_nil, List.map_cons, List.map_nil, List.replicate, List.getElem?_cons_zero, List.getElem?_cons_succ, List.cons_append, List.nil_append, if_true, if_false, Bool.false_eq_true, Nat.sub_self, Bool.true_and, Bool.and_true, Bool.false_and, Bool.and_false, Bool.not_true, Bool.not_false, Bool.or_false, Bool.false_or, Bool.true_or, Bool.or_true, decide_true, decide_false, Option.map_some, permD, setW, List.set_cons_zero, List.set_cons_succ, bindP, bindPs, v_rd, v_dat, v_non, v_bl, v_int, v_lst, v_tup, v_str, v_add, v_sub, v_mul, v_fdiv, v_mod, v_cat, v_app, v_neg, v_lt, v_le, v_gt, v_ge, v_eq, v_isN, v_notN, v_in, v_nin, v_inS, v_eqI, v_eqS, v_neI, v_neS, v_lenS, v_lenL, v_lenT, v_repr, v_intI, v_intB, v_abs, v_ty_int_non, v_ty_int_bl, v_ty_int_int, v_ty_int_str, v_ty_int_lst, v_ty_int_tup, v_ty_int_dct, v_ty_bool_non, v_ty_bool_bl, v_ty_bool_int, v_ty_bool_str, v_ty_bool_lst, v_ty_bool_tup, v_ty_bool_dct, v_ty_str_non, v_ty_str_bl, v_ty_str_int, v_ty_str_str, v_ty_str_lst, v_ty_str_tup, v_ty_str_dct, v_ty_list_non, v_ty_list_bl, v_ty_list_int, v_ty_list_str, v_ty_list_lst, v_ty_list_tup, v_ty_list_dct, v_ty_tuple_non, v_ty_tuple_bl, v_ty_tuple_int, v_ty_tuple_str, v_ty_tuple_lst, v_ty_tuple_tup, v_ty_tuple_dct, v_ty_dict_non, v_ty_dict_bl, v_ty_dict_int, v_ty_dict_str, v_ty_dict_lst, v_ty_dict_tup, v_ty_dict_dct, v_isN_non, v_isN_int, v_isN_bl, v_isN_str, v_sliS, v_sliL, v_sliT, v_optN, v_optI, v_meT, v_join, v_walL, v_walT, v_walS, v_rng1, v_rng2, v_enum, v_zip, v_fewF, v_any1, v_any2, Nat.zero_add, Nat.reduceAdd, Nat.reduceLT, Nat.reduceLeDiff, Nat.reduceSub, Nat.reduceEqDiff, le_lim]) rfl rfl (by decide +kernel) ⟨rfl, none, rfl⟩ fun d _ env S h => ?_
    obtain ⟨rfl, a2, rfl⟩ := h
    exact ⟨[none, some (.d .pen), some (.d d)], by simp only [exB, evE, evL, tstE, M.bnd, opt_some, bnd_ret, opt_bnd, mapO, List.length_cons, List.length_nil, List.map_cons, List.map_nil, List.replicate, List.getElem?_cons_zero, List.getElem?_cons_succ, List.cons_append, List.nil_append, if_true, if_false, Bool.false_eq_true, Nat.sub_self, Bool.true_and, Bool.and_true, Bool.false_and, Bool.and_false, Bool.not_true, Bool.not_false, Bool.or_false, Bool.false_or, Bool.true_or, Bool.or_true, decide_true, decide_false, Option.map_some, permD, setW, List.set_cons_zero, List.set_cons_succ, bindP, bindPs, v_rd, v_dat, v_non, v_bl, v_int, v_lst, v_tup, v_str, v_add, v_sub, v_mul, v_fdiv, v_mod, v_cat, v_app, v_neg, v_lt, v_le, v_gt, v_ge, v_eq, v_isN, v_notN, v_in, v_nin, v_inS, v_eqI, v_eqS, v_neI, v_neS, v_lenS, v_lenL, v_lenT, v_repr, v_intI, v_intB, v_abs, v_ty_int_non, v_ty_int_bl, v_ty_int_int, v_ty_int_str, v_ty_int_lst, v_ty_int_tup, v_ty_int_dct, v_ty_bool_non, v_ty_bool_bl, v_ty_bool_int, v_ty_bool_str, v_ty_bool_lst, v_ty_bool_tup, v_ty_bool_dct, v_ty_str_non, v_ty_str_bl, v_ty_str_int, v_ty_str_str, v_ty_str_lst, v_ty_str_tup, v_ty_str_dct, v_ty_list_non, v_ty_list_bl, v_ty_list_int, v_ty_list_str, v_ty_list_lst, v_ty_list_tup, v_ty_list_dct, v_ty_tuple_non, v_ty_tuple_bl, v_ty_tuple_int, v_ty_tuple_str, v_ty_tuple_lst, v_ty_tuple_tup, v_ty_tuple_dct, v_ty_dict_non, v_ty_dict_bl, v_ty_dict_int, v_ty_dict_str, v_ty_dict_lst, v_ty_dict_tup, v_ty_dict_dct, v_isN_non, v_isN_int, v_isN_bl, v_isN_str, v_sliS, v_sliL, v_sliT, v_optN, v_optI, v_meT, v_join, v_walL, v_walT, v_walS, v_rng1, v_rng2, v_enum, v_zip, v_fewF, v_any1, v_any2, Nat.zero_add, Nat.reduceAdd, Nat.reduceLT, Nat.reduceLeDiff, Nat.reduceSub, Nat.reduceEqDiff, le_lim], turn⟩
  · rintro _ _ ⟨rfl, a2, rfl⟩
    exact Tri.ret last rfl
end RL.T
end

section
set_option Elab.async false
set_option linter.all false
set_option maxRecDepth 100000
set_option maxHeartbeats 1000000
namespace RL.T.Dr
open PySem L2
/-! the drawing def's law -/
theorem v_rdr {ds : List D} {S : Sto} : rdW (.r 0) (.lst ds :: S) = some (.lst ds) := rfl
theorem v_s0 {a b c : D} : subD (.lst [a, b, c]) (.int 0) = some a := rfl
theorem v_s1 {a b c : D} : subD (.lst [a, b, c]) (.int 1) = some b := rfl
theorem v_s2 {a b c : D} : subD (.lst [a, b, c]) (.int 2) = some c := rfl
theorem v_i1 : L2.ixN 3 1 = some 1 := rfl
theorem v_i2 : L2.ixN 3 2 = some 2 := rfl
theorem p18 : binD .pow (.int 10) (.int 18) = some (.int (10 ^ 18)) := by kernel_rfl
theorem big_log {i : Int} {k : Nat} (h0 : 0 ≤ i) (h : i < 2 ^ k) (hk : 0 < k) : i.natAbs.log2 < k := by
  have h2 : i.natAbs < 2 ^ k := by
    have e : ((2 ^ k : Nat) : Int) = (2 : Int) ^ k := by push_cast; rfl
    omega
  by_cases hz : i.natAbs = 0
  · rw [hz]
    simpa using hk
  · exact (Nat.log2_lt hz).mpr h2
variable {ns : List Int} {n t g : Int} {a2 a3 a4 a5 : Option W}
abbrev St0 (ns : List Int) (t g : Int) : Sto := [.lst [.lst (ns.map D.int), .int t, .int g]]
theorem dx0 : evE noC x0__law_draw [some (.r 0), some (.d (.int n)), a2, a3, a4, a5] (St0 ns t g) = .ret (.d (.bl (decide (0 < g))), St0 ns t g) := by
  simp only [x0__law_draw, exB, evE, evL, tstE, M.bnd, opt_some, bnd_ret, opt_bnd, mapO, List.length_cons, List.length_nil, List.map_cons, List.map_nil, List.replicate, List.getElem?_cons_zero, List.getElem?_cons_succ, List.cons_append, List.nil_append, if_true, if_false, Bool.false_eq_true, Nat.sub_self, Bool.true_and, Bool.and_true, Bool.false_and, Bool.and_false, Bool.not_true, Bool.not_false, Bool.or_false, Bool.false_or, Bool.true_or, Bool.or_true, decide_true, decide_false, Option.map_some, permD, setW, List.set_cons_zero, List.set_cons_succ, bindP, bindPs, v_rd, v_dat, v_non, v_bl, v_int, v_lst, v_tup, v_str, v_add, v_sub, v_mul, v_fdiv, v_mod, v_cat, v_app, v_neg, v_lt, v_le, v_gt, v_ge, v_eq, v_isN, v_notN, v_in, v_nin, v_inS, v_eqI, v_eqS, v_neI, v_neS, v_lenS, v_lenL, v_lenT, v_repr, v_intI, v_intB, v_abs, v_ty_int_non, v_ty_int_bl, v_ty_int_int, v_ty_int_str, v_ty_int_lst, v_ty_int_tup, v_ty_int_dct, v_ty_bool_non, v_ty_bool_bl, v_ty_bool_int, v_ty_bool_str, v_ty_bool_lst, v_ty_bool_tup, v_ty_bool_dct, v_ty_str_non, v_ty_str_bl, v_ty_str_int, v_ty_str_str, v_ty_str_lst, v_ty_str_tup, v_ty_str_dct, v_ty_list_non, v_ty_list_bl, v_ty_list_int, v_ty_list_str, v_ty_list_lst, v_ty_list_tup, v_ty_list_dct, v_ty_tuple_non, v_ty_tuple_bl, v_ty_tuple_int, v_ty_tuple_str, v_ty_tuple_lst, v_ty_tuple_tup, v_ty_tuple_dct, v_ty_dict_non, v_ty_dict_bl, v_ty_dict_int, v_ty_dict_str, v_ty_dict_lst, v_ty_dict_tup, v_ty_dict_dct, v_isN_non, v_isN_int, v_isN_bl, v_isN_str, v_sliS, v_sliL, v_sliT, v_optN, v_optI, v_meT, v_join, v_walL, v_walT, v_walS, v_rng1, v_rng2, v_enum, v_zip, v_fewF, v_any1, v_any2, Nat.zero_add, Nat.reduceAdd, Nat.reduceLT, Nat.reduceLeDiff, Nat.reduceSub, Nat.reduceEqDiff, le_lim, v_rdr, v_s2]
theorem dx1 : evE noC x1__law_draw [some (.r 0), some (.d (.int n)), a2, a3, a4, a5] (St0 ns t g) = .ret (.d (.int g), St0 ns t g) := by
  simp only [x1__law_draw, exB, evE, evL, tstE, M.bnd, opt_some, bnd_ret, opt_bnd, mapO, List.length_cons, List.length_nil, List.map_cons, List.map_nil, List.replicate, List.getElem?_cons_zero, List.getElem?_cons_succ, List.cons_append, List.nil_append, if_true, if_false, Bool.false_eq_true, Nat.sub_self, Bool.true_and, Bool.and_true, Bool.false_and, Bool.and_false, Bool.not_true, Bool.not_false, Bool.or_false, Bool.false_or, Bool.true_or, Bool.or_true, decide_true, decide_false, Option.map_some, permD, setW, List.set_cons_zero, List.set_cons_succ, bindP, bindPs, v_rd, v_dat, v_non, v_bl, v_int, v_lst, v_tup, v_str, v_add, v_sub, v_mul, v_fdiv, v_mod, v_cat, v_app, v_neg, v_lt, v_le, v_gt, v_ge, v_eq, v_isN, v_notN, v_in, v_nin, v_inS, v_eqI, v_eqS, v_neI, v_neS, v_lenS, v_lenL, v_lenT, v_repr, v_intI, v_intB, v_abs, v_ty_int_non, v_ty_int_bl, v_ty_int_int, v_ty_int_str, v_ty_int_lst, v_ty_int_tup, v_ty_int_dct, v_ty_bool_non, v_ty_bool_bl, v_ty_bool_int, v_ty_bool_str, v_ty_bool_lst, v_ty_bool_tup, v_ty_bool_dct, v_ty_str_non, v_ty_str_bl, v_ty_str_int, v_ty_str_str, v_ty_str_lst, v_ty_str_tup, v_ty_str_dct, v_ty_list_non, v_ty_list_bl, v_ty_list_int, v_ty_list_str, v_ty_list_lst, v_ty_list_tup, v_ty_list_dct, v_ty_tuple_non, v_ty_tuple_bl, v_ty_tuple_int, v_ty_tuple_str, v_ty_tuple_lst, v_ty_tuple_tup, v_ty_tuple_dct, v_ty_dict_non, v_ty_dict_bl, v_ty_dict_int, v_ty_dict_str, v_ty_dict_lst, v_ty_dict_tup, v_ty_dict_dct, v_isN_non, v_isN_int, v_isN_bl, v_isN_str, v_sliS, v_sliL, v_sliT, v_optN, v_optI, v_meT, v_join, v_walL, v_walT, v_walS, v_rng1, v_rng2, v_enum, v_zip, v_fewF, v_any1, v_any2, Nat.zero_add, Nat.reduceAdd, Nat.reduceLT, Nat.reduceLeDiff, Nat.reduceSub, Nat.reduceEqDiff, le_lim, v_rdr, v_s2]
theorem pow_of {x j : Int} (h0 : 0 ≤ j) (h1 : j ≤ 60) (h : x.natAbs < 2 ^ 20000) : binD .pow (.int x) (.int j) = some (.int (x ^ j.toNat)) := by
  rw [v_pow, if_pos (.inr ⟨h0, h1, h⟩)]
theorem mul_of {i j : Int} (h : i.natAbs.log2 + j.natAbs.log2 < 1000000) : binD .mul (.int i) (.int j) = some (.int (i * j)) := by
  rw [v_mul, if_pos (by unfold isIntOk; rw [decide_eq_true h, Bool.or_true])]
theorem div_of {i j : Int} (h0 : 0 < j) (h : j.natAbs.log2 < 9000) : binD .fdiv (.int i) (.int j) = some (.int (i / j)) := by
  rw [v_fdiv h0, if_pos h]
theorem mod_of {i j : Int} (h0 : 0 < j) : binD .mod (.int i) (.int j) = some (.int (i % j)) := by
  rw [v_mod, if_pos h0]
theorem case1 (hn : 0 < n) (hl : n.natAbs.log2 < 9000) (hg : 0 < g) : exB noC b_draw [some (.r 0), some (.d (.int n)), none, none, none, none] (St0 ns t g) =
    .ret (.rt (.d (.int (g % n))), [some (.r 0), some (.d (.int n)), none, none, none, some (.d (.int g))], St0 ns t (g / n)) := by
  simp only [b_draw, s0__law_draw, s1__law_draw, s2__law_draw, y0__law_draw, s3__law_draw, s4__law_draw, s5__law_draw, s6__law_draw, s7__law_draw, y1__law_draw, s8__law_draw, s9__law_draw, s10__law_draw, s11__law_draw, y2__law_draw, s12__law_draw, s13__law_draw, s14__law_draw, s15__law_draw, exB, tstE, dx0, dx1, x2__law_draw, exB, evE, evL, tstE, M.bnd, opt_some, bnd_ret, opt_bnd, mapO, List.length_cons, List.length_nil, List.map_cons, List.map_nil, List.replicate, List.getElem?_cons_zero, List.getElem?_cons_succ, List.cons_append, List.nil_append, if_true, if_false, Bool.false_eq_true, Nat.sub_self, Bool.true_and, Bool.and_true, Bool.false_and, Bool.and_false, Bool.not_true, Bool.not_false, Bool.or_false, Bool.false_or, Bool.true_or, Bool.or_true, decide_true, decide_false, Option.map_some, permD, setW, List.set_cons_zero, List.set_cons_succ, bindP, bindPs, v_rd, v_dat, v_non, v_bl, v_int, v_lst, v_tup, v_str, v_add, v_sub, v_cat, v_app, v_neg, v_lt, v_le, v_gt, v_ge, v_eq, v_isN, v_notN, v_in, v_nin, v_inS, v_eqI, v_eqS, v_neI, v_neS, v_lenS, v_lenL, v_lenT, v_repr, v_intI, v_intB, v_abs, v_ty_int_non, v_ty_int_bl, v_ty_int_int, v_ty_int_str, v_ty_int_lst, v_ty_int_tup, v_ty_int_dct, v_ty_bool_non, v_ty_bool_bl, v_ty_bool_int, v_ty_bool_str, v_ty_bool_lst, v_ty_bool_tup, v_ty_bool_dct, v_ty_str_non, v_ty_str_bl, v_ty_str_int, v_ty_str_str, v_ty_str_lst, v_ty_str_tup, v_ty_str_dct, v_ty_list_non, v_ty_list_bl, v_ty_list_int, v_ty_list_str, v_ty_list_lst, v_ty_list_tup, v_ty_list_dct, v_ty_tuple_non, v_ty_tuple_bl, v_ty_tuple_int, v_ty_tuple_str, v_ty_tuple_lst, v_ty_tuple_tup, v_ty_tuple_dct, v_ty_dict_non, v_ty_dict_bl, v_ty_dict_int, v_ty_dict_str, v_ty_dict_lst, v_ty_dict_tup, v_ty_dict_dct, v_isN_non, v_isN_int, v_isN_bl, v_isN_str, v_sliS, v_sliL, v_sliT, v_optN, v_optI, v_meT, v_join, v_walL, v_walT, v_walS, v_rng1, v_rng2, v_enum, v_zip, v_fewF, v_any1, v_any2, Nat.zero_add, Nat.reduceAdd, Nat.reduceLT, Nat.reduceLeDiff, Nat.reduceSub, Nat.reduceEqDiff, le_lim, v_rdr, v_i2, hg, div_of hn hl, mod_of hn]
theorem pys_ints : ∀ ns : List Int, D.pys (ns.map D.int) = some (ns.map PyData.int)
  | [] => rfl
  | n :: ns => by
    show (match D.py (.int n), D.pys (ns.map D.int) with
      | some x, some xs => some (x :: xs)
      | _, _ => none) = _
    rw [pys_ints ns]
    rfl
theorem lay_ints : ∀ ns : List Int, PyData.canLayAll0 (ns.map PyData.int) = true ∧ PyData.depthAll (ns.map PyData.int) = 0
  | [] => ⟨rfl, rfl⟩
  | n :: ns => by
    obtain ⟨h1, h2⟩ := lay_ints ns
    refine ⟨?_, ?_⟩
    · show (PyData.canLay0 (.int n) && PyData.canLayAll0 (ns.map PyData.int)) = true
      rw [h1]
      rfl
    · show max (PyData.depth (.int n)) (PyData.depthAll (ns.map PyData.int)) = 0
      rw [h2]
      rfl
theorem ne_ints : cmpD .ne (.lst (ns.map D.int)) (.lst []) = some (!ns.isEmpty) := by
  obtain ⟨h1, h2⟩ := lay_ints ns
  have e1 : D.py (.lst (ns.map D.int)) = some (.list (ns.map PyData.int)) := by
    simp only [D.py, pys_ints, Option.map_some]
  have e2 : SeqAt.shaped (.list (ns.map PyData.int)) = true := by
    unfold SeqAt.shaped
    simp only [PyData.canLay0, PyData.depth, h1, h2]
    decide
  show (eqD (.lst (ns.map D.int)) (.lst [])).map not = _
  have e3 : eqD (.lst (ns.map D.int)) (.lst []) = some ns.isEmpty := by
    unfold eqD
    show (match D.py (.lst (ns.map D.int)), D.py (.lst []) with
      | some x, some y => if SeqAt.shaped x && SeqAt.shaped y then some (PyData.eqv x y) else none
      | _, _ => none) = _
    rw [e1]
    show (if SeqAt.shaped (.list (ns.map PyData.int)) && SeqAt.shaped (.list []) then some (PyData.eqv (.list (ns.map PyData.int)) (.list [])) else none) = _
    rw [e2]
    show some _ = some _
    cases ns <;> rfl
  rw [e3]
  rfl
theorem lenI : ((ns.map D.int).length : Int) = (ns.length : Int) := by rw [List.length_map]
/-- what is drawn of a cell and a count -/
def m1 (z t : Int) : Int := (z % 2147483579 + 60071 * t + 3037) ^ (Int.toNat 5) % 2147483629
def m2 (z t : Int) : Int := (m1 z t * (2 * t + 215) + 90155 * t * t + 60071) ^ (Int.toNat 3) % 2147483549
theorem m1_in (z t : Int) : 0 ≤ m1 z t ∧ m1 z t < 2 ^ 31 := by
  unfold m1
  have h1 := Int.emod_nonneg ((z % 2147483579 + 60071 * t + 3037) ^ (Int.toNat 5)) (b := 2147483629) (by decide)
  have h2 := Int.emod_lt_of_pos ((z % 2147483579 + 60071 * t + 3037) ^ (Int.toNat 5)) (b := 2147483629) (by decide)
  exact ⟨h1, by omega⟩
theorem natAbs_of {x : Int} {k : Nat} (h0 : 0 ≤ x) (h : x < 2 ^ k) : x.natAbs < 2 ^ k := by
  have e : ((2 ^ k : Nat) : Int) = (2 : Int) ^ k := by push_cast; rfl
  omega
theorem pow_up {j k : Nat} (h : j ≤ k) : (2 : Int) ^ j ≤ 2 ^ k := by
  have := Nat.pow_le_pow_right (show 2 > 0 by decide) h
  exact_mod_cast this
theorem b1 (z : Int) (h0 : 0 ≤ t) (h1 : t < 2 ^ 1000) : (z % 2147483579 + 60071 * t + 3037).natAbs < 2 ^ 20000 := by
  have a1 := Int.emod_nonneg z (b := 2147483579) (by decide)
  have a2 := Int.emod_lt_of_pos z (b := 2147483579) (by decide)
  refine natAbs_of (by omega) (Int.lt_of_lt_of_le ?_ (pow_up (show 1100 ≤ 20000 by decide)))
  have e : (2 : Int) ^ 1100 = 2 ^ 1000 * 2 ^ 100 := by rw [← Int.pow_add]
  have p : (1 : Int) ≤ 2 ^ 1000 := by
    have := pow_up (show 0 ≤ 1000 by decide)
    simpa using this
  rw [e]
  generalize (2 : Int) ^ 1000 = T at *
  have q : (2 : Int) ^ 100 = 1267650600228229401496703205376 := by decide +kernel
  rw [q]
  omega
theorem b2 (z : Int) (h0 : 0 ≤ t) (h1 : t < 2 ^ 1000) : (m1 z t * (2 * t + 215) + 90155 * t * t + 60071).natAbs < 2 ^ 20000 := by
  obtain ⟨a1, a2⟩ := m1_in z t
  generalize m1 z t = m at *
  have p : (1 : Int) ≤ 2 ^ 1000 := by
    have := pow_up (show 0 ≤ 1000 by decide)
    simpa using this
  have e : (2 : Int) ^ 2100 = 2 ^ 1000 * 2 ^ 1000 * 2 ^ 100 := by rw [← Int.pow_add, ← Int.pow_add]
  have s1 : m * (2 * t + 215) ≤ 2 ^ 31 * (2 * t + 215) := Int.mul_le_mul_of_nonneg_right (by omega) (by omega)
  have s2 : 0 ≤ m * (2 * t + 215) := Int.mul_nonneg a1 (by omega)
  have s3 : 0 ≤ 90155 * t * t := Int.mul_nonneg (by omega) h0
  have s4 : 90155 * t * t ≤ 90155 * 2 ^ 1000 * 2 ^ 1000 := Int.mul_le_mul (by omega) (by omega) h0 (by omega)
  refine natAbs_of (by omega) (Int.lt_of_lt_of_le ?_ (pow_up (show 2100 ≤ 20000 by decide)))
  rw [e]
  generalize (2 : Int) ^ 1000 = T at *
  have q : (2 : Int) ^ 100 = 1267650600228229401496703205376 := by decide +kernel
  rw [q]
  have tt : T ≤ T * T := by
    have := Int.mul_le_mul_of_nonneg_right p (show 0 ≤ T by omega)
    simpa using this
  have s5 : 90155 * T * T = 90155 * (T * T) := Int.mul_assoc _ _ _
  generalize T * T = U at *
  omega
theorem lg {c : Int} {k : Nat} (hc : c.natAbs.log2 < 100) (h0 : 0 ≤ t) (h1 : t < 2 ^ 1000) : c.natAbs.log2 + t.natAbs.log2 < 1000000 := by
  have := big_log h0 h1 (by decide)
  omega
theorem dx3 (h0 : 0 ≤ t) (h1 : t < 2 ^ 1000) : evE noC x3__law_draw [some (.r 0), some (.d (.int n)), some (.d (.int t)), a3, a4, a5] (St0 ns (t + 1) g) = .ret (.d (.int (90155 * t + 3037)), St0 ns (t + 1) g) := by
  simp only [x3__law_draw, exB, evE, evL, tstE, M.bnd, opt_some, bnd_ret, opt_bnd, mapO, List.length_cons, List.length_nil, List.map_cons, List.map_nil, List.replicate, List.getElem?_cons_zero, List.getElem?_cons_succ, List.cons_append, List.nil_append, if_true, if_false, Bool.false_eq_true, Nat.sub_self, Bool.true_and, Bool.and_true, Bool.false_and, Bool.and_false, Bool.not_true, Bool.not_false, Bool.or_false, Bool.false_or, Bool.true_or, Bool.or_true, decide_true, decide_false, Option.map_some, permD, setW, List.set_cons_zero, List.set_cons_succ, bindP, bindPs, v_rd, v_dat, v_non, v_bl, v_int, v_lst, v_tup, v_str, v_add, v_sub, v_cat, v_app, v_neg, v_lt, v_le, v_gt, v_ge, v_eq, v_isN, v_notN, v_in, v_nin, v_inS, v_eqI, v_eqS, v_neI, v_neS, v_lenS, v_lenL, v_lenT, v_repr, v_intI, v_intB, v_abs, v_ty_int_non, v_ty_int_bl, v_ty_int_int, v_ty_int_str, v_ty_int_lst, v_ty_int_tup, v_ty_int_dct, v_ty_bool_non, v_ty_bool_bl, v_ty_bool_int, v_ty_bool_str, v_ty_bool_lst, v_ty_bool_tup, v_ty_bool_dct, v_ty_str_non, v_ty_str_bl, v_ty_str_int, v_ty_str_str, v_ty_str_lst, v_ty_str_tup, v_ty_str_dct, v_ty_list_non, v_ty_list_bl, v_ty_list_int, v_ty_list_str, v_ty_list_lst, v_ty_list_tup, v_ty_list_dct, v_ty_tuple_non, v_ty_tuple_bl, v_ty_tuple_int, v_ty_tuple_str, v_ty_tuple_lst, v_ty_tuple_tup, v_ty_tuple_dct, v_ty_dict_non, v_ty_dict_bl, v_ty_dict_int, v_ty_dict_str, v_ty_dict_lst, v_ty_dict_tup, v_ty_dict_dct, v_isN_non, v_isN_int, v_isN_bl, v_isN_str, v_sliS, v_sliL, v_sliT, v_optN, v_optI, v_meT, v_join, v_walL, v_walT, v_walS, v_rng1, v_rng2, v_enum, v_zip, v_fewF, v_any1, v_any2, Nat.zero_add, Nat.reduceAdd, Nat.reduceLT, Nat.reduceLeDiff, Nat.reduceSub, Nat.reduceEqDiff, le_lim, mul_of (i := 90155) (lg (k := 0) (by decide) h0 h1)]
theorem dx4 : evE noC x4__law_draw [some (.r 0), some (.d (.int n)), some (.d (.int t)), a3, a4, a5] (St0 ns (t + 1) g) = .ret (.d (.bl (!ns.isEmpty)), St0 ns (t + 1) g) := by
  simp only [x4__law_draw, exB, evE, evL, tstE, M.bnd, opt_some, bnd_ret, opt_bnd, mapO, List.length_cons, List.length_nil, List.map_cons, List.map_nil, List.replicate, List.getElem?_cons_zero, List.getElem?_cons_succ, List.cons_append, List.nil_append, if_true, if_false, Bool.false_eq_true, Nat.sub_self, Bool.true_and, Bool.and_true, Bool.false_and, Bool.and_false, Bool.not_true, Bool.not_false, Bool.or_false, Bool.false_or, Bool.true_or, Bool.or_true, decide_true, decide_false, Option.map_some, permD, setW, List.set_cons_zero, List.set_cons_succ, bindP, bindPs, v_rd, v_dat, v_non, v_bl, v_int, v_lst, v_tup, v_str, v_add, v_sub, v_cat, v_app, v_neg, v_lt, v_le, v_gt, v_ge, v_eq, v_isN, v_notN, v_in, v_nin, v_inS, v_eqI, v_eqS, v_neI, v_neS, v_lenS, v_lenL, v_lenT, v_repr, v_intI, v_intB, v_abs, v_ty_int_non, v_ty_int_bl, v_ty_int_int, v_ty_int_str, v_ty_int_lst, v_ty_int_tup, v_ty_int_dct, v_ty_bool_non, v_ty_bool_bl, v_ty_bool_int, v_ty_bool_str, v_ty_bool_lst, v_ty_bool_tup, v_ty_bool_dct, v_ty_str_non, v_ty_str_bl, v_ty_str_int, v_ty_str_str, v_ty_str_lst, v_ty_str_tup, v_ty_str_dct, v_ty_list_non, v_ty_list_bl, v_ty_list_int, v_ty_list_str, v_ty_list_lst, v_ty_list_tup, v_ty_list_dct, v_ty_tuple_non, v_ty_tuple_bl, v_ty_tuple_int, v_ty_tuple_str, v_ty_tuple_lst, v_ty_tuple_tup, v_ty_tuple_dct, v_ty_dict_non, v_ty_dict_bl, v_ty_dict_int, v_ty_dict_str, v_ty_dict_lst, v_ty_dict_tup, v_ty_dict_dct, v_isN_non, v_isN_int, v_isN_bl, v_isN_str, v_sliS, v_sliL, v_sliT, v_optN, v_optI, v_meT, v_join, v_walL, v_walT, v_walS, v_rng1, v_rng2, v_enum, v_zip, v_fewF, v_any1, v_any2, Nat.zero_add, Nat.reduceAdd, Nat.reduceLT, Nat.reduceLeDiff, Nat.reduceSub, Nat.reduceEqDiff, le_lim, v_rdr, v_s0, ne_ints]
theorem dx5 (hne : ns ≠ []) : ∃ z, evE noC x5__law_draw [some (.r 0), some (.d (.int n)), some (.d (.int t)), a3, a4, a5] (St0 ns (t + 1) g) = .ret (.d (.int z), St0 ns (t + 1) g) := by
  have hl : 0 < (ns.length : Int) := by
    cases ns with
    | nil => exact absurd rfl hne
    | cons a b => simp only [List.length_cons]; omega
  have e0 := Int.emod_nonneg t (b := (ns.length : Int)) (by omega)
  have e1 := Int.emod_lt_of_pos t hl
  obtain ⟨d, hd, ed⟩ := atI_of (xs := ns.map D.int) e0 (by rw [lenI]; exact e1)
  obtain ⟨z, _, rfl⟩ := List.mem_map.mp hd
  refine ⟨z, ?_⟩
  have es : subD (.lst (ns.map D.int)) (.int (t % (ns.length : Int))) = some (.int z) := by
    simp only [subD, ed]
  simp only [x5__law_draw, exB, evE, evL, tstE, M.bnd, opt_some, bnd_ret, opt_bnd, mapO, List.length_cons, List.length_nil, List.map_cons, List.map_nil, List.replicate, List.getElem?_cons_zero, List.getElem?_cons_succ, List.cons_append, List.nil_append, if_true, if_false, Bool.false_eq_true, Nat.sub_self, Bool.true_and, Bool.and_true, Bool.false_and, Bool.and_false, Bool.not_true, Bool.not_false, Bool.or_false, Bool.false_or, Bool.true_or, Bool.or_true, decide_true, decide_false, Option.map_some, permD, setW, List.set_cons_zero, List.set_cons_succ, bindP, bindPs, v_rd, v_dat, v_non, v_bl, v_int, v_lst, v_tup, v_str, v_add, v_sub, v_cat, v_app, v_neg, v_lt, v_le, v_gt, v_ge, v_eq, v_isN, v_notN, v_in, v_nin, v_inS, v_eqI, v_eqS, v_neI, v_neS, v_lenS, v_lenL, v_lenT, v_repr, v_intI, v_intB, v_abs, v_ty_int_non, v_ty_int_bl, v_ty_int_int, v_ty_int_str, v_ty_int_lst, v_ty_int_tup, v_ty_int_dct, v_ty_bool_non, v_ty_bool_bl, v_ty_bool_int, v_ty_bool_str, v_ty_bool_lst, v_ty_bool_tup, v_ty_bool_dct, v_ty_str_non, v_ty_str_bl, v_ty_str_int, v_ty_str_str, v_ty_str_lst, v_ty_str_tup, v_ty_str_dct, v_ty_list_non, v_ty_list_bl, v_ty_list_int, v_ty_list_str, v_ty_list_lst, v_ty_list_tup, v_ty_list_dct, v_ty_tuple_non, v_ty_tuple_bl, v_ty_tuple_int, v_ty_tuple_str, v_ty_tuple_lst, v_ty_tuple_tup, v_ty_tuple_dct, v_ty_dict_non, v_ty_dict_bl, v_ty_dict_int, v_ty_dict_str, v_ty_dict_lst, v_ty_dict_tup, v_ty_dict_dct, v_isN_non, v_isN_int, v_isN_bl, v_isN_str, v_sliS, v_sliL, v_sliT, v_optN, v_optI, v_meT, v_join, v_walL, v_walT, v_walS, v_rng1, v_rng2, v_enum, v_zip, v_fewF, v_any1, v_any2, Nat.zero_add, Nat.reduceAdd, Nat.reduceLT, Nat.reduceLeDiff, Nat.reduceSub, Nat.reduceEqDiff, le_lim, v_rdr, v_s0, lenI, mod_of hl, es]
def isBig (ns : List Int) (t z : Int) : Bool := decide (t < (ns.length : Int)) && decide ((10 : Int) ^ 18 ≤ (z.natAbs : Int))
theorem dx6 {z : Int} : evE noC x6__law_draw [some (.r 0), some (.d (.int n)), some (.d (.int t)), some (.d (.int z)), a4, a5] (St0 ns (t + 1) g) = .ret (.d (.bl (isBig ns t z)), St0 ns (t + 1) g) := by
  unfold isBig
  by_cases h : t < (ns.length : Int)
  · simp only [x6__law_draw, exB, evE, evL, tstE, M.bnd, opt_some, bnd_ret, opt_bnd, mapO, List.length_cons, List.length_nil, List.map_cons, List.map_nil, List.replicate, List.getElem?_cons_zero, List.getElem?_cons_succ, List.cons_append, List.nil_append, if_true, if_false, Bool.false_eq_true, Nat.sub_self, Bool.true_and, Bool.and_true, Bool.false_and, Bool.and_false, Bool.not_true, Bool.not_false, Bool.or_false, Bool.false_or, Bool.true_or, Bool.or_true, decide_true, decide_false, Option.map_some, permD, setW, List.set_cons_zero, List.set_cons_succ, bindP, bindPs, v_rd, v_dat, v_non, v_bl, v_int, v_lst, v_tup, v_str, v_add, v_sub, v_cat, v_app, v_neg, v_lt, v_le, v_gt, v_ge, v_eq, v_isN, v_notN, v_in, v_nin, v_inS, v_eqI, v_eqS, v_neI, v_neS, v_lenS, v_lenL, v_lenT, v_repr, v_intI, v_intB, v_abs, v_ty_int_non, v_ty_int_bl, v_ty_int_int, v_ty_int_str, v_ty_int_lst, v_ty_int_tup, v_ty_int_dct, v_ty_bool_non, v_ty_bool_bl, v_ty_bool_int, v_ty_bool_str, v_ty_bool_lst, v_ty_bool_tup, v_ty_bool_dct, v_ty_str_non, v_ty_str_bl, v_ty_str_int, v_ty_str_str, v_ty_str_lst, v_ty_str_tup, v_ty_str_dct, v_ty_list_non, v_ty_list_bl, v_ty_list_int, v_ty_list_str, v_ty_list_lst, v_ty_list_tup, v_ty_list_dct, v_ty_tuple_non, v_ty_tuple_bl, v_ty_tuple_int, v_ty_tuple_str, v_ty_tuple_lst, v_ty_tuple_tup, v_ty_tuple_dct, v_ty_dict_non, v_ty_dict_bl, v_ty_dict_int, v_ty_dict_str, v_ty_dict_lst, v_ty_dict_tup, v_ty_dict_dct, v_isN_non, v_isN_int, v_isN_bl, v_isN_str, v_sliS, v_sliL, v_sliT, v_optN, v_optI, v_meT, v_join, v_walL, v_walT, v_walS, v_rng1, v_rng2, v_enum, v_zip, v_fewF, v_any1, v_any2, Nat.zero_add, Nat.reduceAdd, Nat.reduceLT, Nat.reduceLeDiff, Nat.reduceSub, Nat.reduceEqDiff, le_lim, v_rdr, v_s0, lenI, h, p18]
  · simp only [x6__law_draw, exB, evE, evL, tstE, M.bnd, opt_some, bnd_ret, opt_bnd, mapO, List.length_cons, List.length_nil, List.map_cons, List.map_nil, List.replicate, List.getElem?_cons_zero, List.getElem?_cons_succ, List.cons_append, List.nil_append, if_true, if_false, Bool.false_eq_true, Nat.sub_self, Bool.true_and, Bool.and_true, Bool.false_and, Bool.and_false, Bool.not_true, Bool.not_false, Bool.or_false, Bool.false_or, Bool.true_or, Bool.or_true, decide_true, decide_false, Option.map_some, permD, setW, List.set_cons_zero, List.set_cons_succ, bindP, bindPs, v_rd, v_dat, v_non, v_bl, v_int, v_lst, v_tup, v_str, v_add, v_sub, v_cat, v_app, v_neg, v_lt, v_le, v_gt, v_ge, v_eq, v_isN, v_notN, v_in, v_nin, v_inS, v_eqI, v_eqS, v_neI, v_neS, v_lenS, v_lenL, v_lenT, v_repr, v_intI, v_intB, v_abs, v_ty_int_non, v_ty_int_bl, v_ty_int_int, v_ty_int_str, v_ty_int_lst, v_ty_int_tup, v_ty_int_dct, v_ty_bool_non, v_ty_bool_bl, v_ty_bool_int, v_ty_bool_str, v_ty_bool_lst, v_ty_bool_tup, v_ty_bool_dct, v_ty_str_non, v_ty_str_bl, v_ty_str_int, v_ty_str_str, v_ty_str_lst, v_ty_str_tup, v_ty_str_dct, v_ty_list_non, v_ty_list_bl, v_ty_list_int, v_ty_list_str, v_ty_list_lst, v_ty_list_tup, v_ty_list_dct, v_ty_tuple_non, v_ty_tuple_bl, v_ty_tuple_int, v_ty_tuple_str, v_ty_tuple_lst, v_ty_tuple_tup, v_ty_tuple_dct, v_ty_dict_non, v_ty_dict_bl, v_ty_dict_int, v_ty_dict_str, v_ty_dict_lst, v_ty_dict_tup, v_ty_dict_dct, v_isN_non, v_isN_int, v_isN_bl, v_isN_str, v_sliS, v_sliL, v_sliT, v_optN, v_optI, v_meT, v_join, v_walL, v_walT, v_walS, v_rng1, v_rng2, v_enum, v_zip, v_fewF, v_any1, v_any2, Nat.zero_add, Nat.reduceAdd, Nat.reduceLT, Nat.reduceLeDiff, Nat.reduceSub, Nat.reduceEqDiff, le_lim, v_rdr, v_s0, lenI, h]
def great (z : Int) : Int := 2 * ((z.natAbs : Int) - 10 ^ 18) + (if decide (z < 0) then 1 else 0)
theorem mul2 {j : Int} : binD .mul (.int 2) (.int j) = some (.int (2 * j)) := by
  rw [v_mul, if_pos (by unfold isIntOk; rfl)]
theorem great_nn {z : Int} (h : (10 : Int) ^ 18 ≤ (z.natAbs : Int)) : 0 ≤ great z := by
  unfold great
  split <;> omega
theorem dx9 {z : Int} (h0 : 0 ≤ t) (h1 : t < 2 ^ 1000) {S : Sto} : evE noC x9__law_draw [some (.r 0), some (.d (.int n)), some (.d (.int t)), some (.d (.int z)), a4, a5] S = .ret (.d (.int (m1 z t)), S) := by
  have e := pow_of (j := 5) (by decide) (by decide) (b1 z h0 h1)
  simp only [x9__law_draw, exB, evE, evL, tstE, M.bnd, opt_some, bnd_ret, opt_bnd, mapO, List.length_cons, List.length_nil, List.map_cons, List.map_nil, List.replicate, List.getElem?_cons_zero, List.getElem?_cons_succ, List.cons_append, List.nil_append, if_true, if_false, Bool.false_eq_true, Nat.sub_self, Bool.true_and, Bool.and_true, Bool.false_and, Bool.and_false, Bool.not_true, Bool.not_false, Bool.or_false, Bool.false_or, Bool.true_or, Bool.or_true, decide_true, decide_false, Option.map_some, permD, setW, List.set_cons_zero, List.set_cons_succ, bindP, bindPs, v_rd, v_dat, v_non, v_bl, v_int, v_lst, v_tup, v_str, v_add, v_sub, v_cat, v_app, v_neg, v_lt, v_le, v_gt, v_ge, v_eq, v_isN, v_notN, v_in, v_nin, v_inS, v_eqI, v_eqS, v_neI, v_neS, v_lenS, v_lenL, v_lenT, v_repr, v_intI, v_intB, v_abs, v_ty_int_non, v_ty_int_bl, v_ty_int_int, v_ty_int_str, v_ty_int_lst, v_ty_int_tup, v_ty_int_dct, v_ty_bool_non, v_ty_bool_bl, v_ty_bool_int, v_ty_bool_str, v_ty_bool_lst, v_ty_bool_tup, v_ty_bool_dct, v_ty_str_non, v_ty_str_bl, v_ty_str_int, v_ty_str_str, v_ty_str_lst, v_ty_str_tup, v_ty_str_dct, v_ty_list_non, v_ty_list_bl, v_ty_list_int, v_ty_list_str, v_ty_list_lst, v_ty_list_tup, v_ty_list_dct, v_ty_tuple_non, v_ty_tuple_bl, v_ty_tuple_int, v_ty_tuple_str, v_ty_tuple_lst, v_ty_tuple_tup, v_ty_tuple_dct, v_ty_dict_non, v_ty_dict_bl, v_ty_dict_int, v_ty_dict_str, v_ty_dict_lst, v_ty_dict_tup, v_ty_dict_dct, v_isN_non, v_isN_int, v_isN_bl, v_isN_str, v_sliS, v_sliL, v_sliT, v_optN, v_optI, v_meT, v_join, v_walL, v_walT, v_walS, v_rng1, v_rng2, v_enum, v_zip, v_fewF, v_any1, v_any2, Nat.zero_add, Nat.reduceAdd, Nat.reduceLT, Nat.reduceLeDiff, Nat.reduceSub, Nat.reduceEqDiff, le_lim, mod_of (i := z) (j := 2147483579) (by decide), mul_of (i := 60071) (lg (k := 0) (by decide) h0 h1), e, mod_of (j := 2147483629) (by decide), m1]
theorem dx10 {z : Int} (h0 : 0 ≤ t) (h1 : t < 2 ^ 1000) {S : Sto} : evE noC x10__law_draw [some (.r 0), some (.d (.int n)), some (.d (.int t)), some (.d (.int z)), some (.d (.int (m1 z t))), a5] S = .ret (.d (.int (m2 z t)), S) := by
  have e := pow_of (j := 3) (by decide) (by decide) (b2 z h0 h1)
  obtain ⟨q1, q2⟩ := m1_in z t
  have k1 : binD .mul (.int (m1 z t)) (.int (2 * t + 215)) = some (.int (m1 z t * (2 * t + 215))) := by
    rw [v_mul, if_pos]
    unfold isIntOk
    rw [decide_eq_true (show (m1 z t).natAbs < 2 ^ 64 by omega)]
    rfl
  have k2 : binD .mul (.int (90155 * t)) (.int t) = some (.int (90155 * t * t)) := by
    refine mul_of ?_
    have l1 := big_log h0 h1 (by decide)
    have p : (1 : Int) ≤ 2 ^ 1000 := by
      have := pow_up (show 0 ≤ 1000 by decide)
      simpa using this
    have l2 : (90155 * t).natAbs.log2 < 1100 := by
      refine big_log (by omega) ?_ (by decide)
      have e : (2 : Int) ^ 1100 = 2 ^ 1000 * 2 ^ 100 := by rw [← Int.pow_add]
      rw [e]
      generalize (2 : Int) ^ 1000 = T at *
      have q : (2 : Int) ^ 100 = 1267650600228229401496703205376 := by decide +kernel
      rw [q]
      omega
    omega
  simp only [x10__law_draw, exB, evE, evL, tstE, M.bnd, opt_some, bnd_ret, opt_bnd, mapO, List.length_cons, List.length_nil, List.map_cons, List.map_nil, List.replicate, List.getElem?_cons_zero, List.getElem?_cons_succ, List.cons_append, List.nil_append, if_true, if_false, Bool.false_eq_true, Nat.sub_self, Bool.true_and, Bool.and_true, Bool.false_and, Bool.and_false, Bool.not_true, Bool.not_false, Bool.or_false, Bool.false_or, Bool.true_or, Bool.or_true, decide_true, decide_false, Option.map_some, permD, setW, List.set_cons_zero, List.set_cons_succ, bindP, bindPs, v_rd, v_dat, v_non, v_bl, v_int, v_lst, v_tup, v_str, v_add, v_sub, v_cat, v_app, v_neg, v_lt, v_le, v_gt, v_ge, v_eq, v_isN, v_notN, v_in, v_nin, v_inS, v_eqI, v_eqS, v_neI, v_neS, v_lenS, v_lenL, v_lenT, v_repr, v_intI, v_intB, v_abs, v_ty_int_non, v_ty_int_bl, v_ty_int_int, v_ty_int_str, v_ty_int_lst, v_ty_int_tup, v_ty_int_dct, v_ty_bool_non, v_ty_bool_bl, v_ty_bool_int, v_ty_bool_str, v_ty_bool_lst, v_ty_bool_tup, v_ty_bool_dct, v_ty_str_non, v_ty_str_bl, v_ty_str_int, v_ty_str_str, v_ty_str_lst, v_ty_str_tup, v_ty_str_dct, v_ty_list_non, v_ty_list_bl, v_ty_list_int, v_ty_list_str, v_ty_list_lst, v_ty_list_tup, v_ty_list_dct, v_ty_tuple_non, v_ty_tuple_bl, v_ty_tuple_int, v_ty_tuple_str, v_ty_tuple_lst, v_ty_tuple_tup, v_ty_tuple_dct, v_ty_dict_non, v_ty_dict_bl, v_ty_dict_int, v_ty_dict_str, v_ty_dict_lst, v_ty_dict_tup, v_ty_dict_dct, v_isN_non, v_isN_int, v_isN_bl, v_isN_str, v_sliS, v_sliL, v_sliT, v_optN, v_optI, v_meT, v_join, v_walL, v_walT, v_walS, v_rng1, v_rng2, v_enum, v_zip, v_fewF, v_any1, v_any2, Nat.zero_add, Nat.reduceAdd, Nat.reduceLT, Nat.reduceLeDiff, Nat.reduceSub, Nat.reduceEqDiff, le_lim, mul2, k1, k2, mul_of (i := 90155) (lg (k := 0) (by decide) h0 h1), e, mod_of (j := 2147483549) (by decide), m2]
theorem dx11 {m : Int} (hn : 0 < n) {S : Sto} : evE noC x11__law_draw [some (.r 0), some (.d (.int n)), a2, a3, some (.d (.int m)), a5] S = .ret (.d (.int (m / 64 % n)), S) := by
  simp only [x11__law_draw, exB, evE, evL, tstE, M.bnd, opt_some, bnd_ret, opt_bnd, mapO, List.length_cons, List.length_nil, List.map_cons, List.map_nil, List.replicate, List.getElem?_cons_zero, List.getElem?_cons_succ, List.cons_append, List.nil_append, if_true, if_false, Bool.false_eq_true, Nat.sub_self, Bool.true_and, Bool.and_true, Bool.false_and, Bool.and_false, Bool.not_true, Bool.not_false, Bool.or_false, Bool.false_or, Bool.true_or, Bool.or_true, decide_true, decide_false, Option.map_some, permD, setW, List.set_cons_zero, List.set_cons_succ, bindP, bindPs, v_rd, v_dat, v_non, v_bl, v_int, v_lst, v_tup, v_str, v_add, v_sub, v_cat, v_app, v_neg, v_lt, v_le, v_gt, v_ge, v_eq, v_isN, v_notN, v_in, v_nin, v_inS, v_eqI, v_eqS, v_neI, v_neS, v_lenS, v_lenL, v_lenT, v_repr, v_intI, v_intB, v_abs, v_ty_int_non, v_ty_int_bl, v_ty_int_int, v_ty_int_str, v_ty_int_lst, v_ty_int_tup, v_ty_int_dct, v_ty_bool_non, v_ty_bool_bl, v_ty_bool_int, v_ty_bool_str, v_ty_bool_lst, v_ty_bool_tup, v_ty_bool_dct, v_ty_str_non, v_ty_str_bl, v_ty_str_int, v_ty_str_str, v_ty_str_lst, v_ty_str_tup, v_ty_str_dct, v_ty_list_non, v_ty_list_bl, v_ty_list_int, v_ty_list_str, v_ty_list_lst, v_ty_list_tup, v_ty_list_dct, v_ty_tuple_non, v_ty_tuple_bl, v_ty_tuple_int, v_ty_tuple_str, v_ty_tuple_lst, v_ty_tuple_tup, v_ty_tuple_dct, v_ty_dict_non, v_ty_dict_bl, v_ty_dict_int, v_ty_dict_str, v_ty_dict_lst, v_ty_dict_tup, v_ty_dict_dct, v_isN_non, v_isN_int, v_isN_bl, v_isN_str, v_sliS, v_sliL, v_sliT, v_optN, v_optI, v_meT, v_join, v_walL, v_walT, v_walS, v_rng1, v_rng2, v_enum, v_zip, v_fewF, v_any1, v_any2, Nat.zero_add, Nat.reduceAdd, Nat.reduceLT, Nat.reduceLeDiff, Nat.reduceSub, Nat.reduceEqDiff, le_lim, div_of (i := m) (j := 64) (by decide) (by decide), mod_of hn]
theorem dx7 {z : Int} {S : Sto} : evE noC x7__law_draw [some (.r 0), some (.d (.int n)), a2, some (.d (.int z)), a4, a5] S = .ret (.d (.int (great z)), S) := by
  simp only [x7__law_draw, exB, evE, evL, tstE, M.bnd, opt_some, bnd_ret, opt_bnd, mapO, List.length_cons, List.length_nil, List.map_cons, List.map_nil, List.replicate, List.getElem?_cons_zero, List.getElem?_cons_succ, List.cons_append, List.nil_append, if_true, if_false, Bool.false_eq_true, Nat.sub_self, Bool.true_and, Bool.and_true, Bool.false_and, Bool.and_false, Bool.not_true, Bool.not_false, Bool.or_false, Bool.false_or, Bool.true_or, Bool.or_true, decide_true, decide_false, Option.map_some, permD, setW, List.set_cons_zero, List.set_cons_succ, bindP, bindPs, v_rd, v_dat, v_non, v_bl, v_int, v_lst, v_tup, v_str, v_add, v_sub, v_cat, v_app, v_neg, v_lt, v_le, v_gt, v_ge, v_eq, v_isN, v_notN, v_in, v_nin, v_inS, v_eqI, v_eqS, v_neI, v_neS, v_lenS, v_lenL, v_lenT, v_repr, v_intI, v_intB, v_abs, v_ty_int_non, v_ty_int_bl, v_ty_int_int, v_ty_int_str, v_ty_int_lst, v_ty_int_tup, v_ty_int_dct, v_ty_bool_non, v_ty_bool_bl, v_ty_bool_int, v_ty_bool_str, v_ty_bool_lst, v_ty_bool_tup, v_ty_bool_dct, v_ty_str_non, v_ty_str_bl, v_ty_str_int, v_ty_str_str, v_ty_str_lst, v_ty_str_tup, v_ty_str_dct, v_ty_list_non, v_ty_list_bl, v_ty_list_int, v_ty_list_str, v_ty_list_lst, v_ty_list_tup, v_ty_list_dct, v_ty_tuple_non, v_ty_tuple_bl, v_ty_tuple_int, v_ty_tuple_str, v_ty_tuple_lst, v_ty_tuple_tup, v_ty_tuple_dct, v_ty_dict_non, v_ty_dict_bl, v_ty_dict_int, v_ty_dict_str, v_ty_dict_lst, v_ty_dict_tup, v_ty_dict_dct, v_isN_non, v_isN_int, v_isN_bl, v_isN_str, v_sliS, v_sliL, v_sliT, v_optN, v_optI, v_meT, v_join, v_walL, v_walT, v_walS, v_rng1, v_rng2, v_enum, v_zip, v_fewF, v_any1, v_any2, Nat.zero_add, Nat.reduceAdd, Nat.reduceLT, Nat.reduceLeDiff, Nat.reduceSub, Nat.reduceEqDiff, le_lim, p18, mul2, great]
theorem tail0 {z : Int} (hn : 0 < n) (hl : n.natAbs.log2 < 9000) (h0 : 0 ≤ t) (h1 : t < 2 ^ 1000) (hg0 : 0 ≤ g) (ez : ns = [] → z = 90155 * t + 3037) (ex : ns ≠ [] → evE noC x5__law_draw [some (.r 0), some (.d (.int n)), some (.d (.int t)), some (.d (.int (90155 * t + 3037))), none, none] (St0 ns (t + 1) g) = .ret (.d (.int z), St0 ns (t + 1) g)) (hg : ¬ 0 < g) :
    ∃ (v g' : Int) (env' : EnvD), exB noC b_draw [some (.r 0), some (.d (.int n)), none, none, none, none] (St0 ns t g) = .ret (.rt (.d (.int v)), env', St0 ns (t + 1) g') ∧ 0 ≤ v ∧ v < n ∧ 0 ≤ g' := by
  have key : ∀ e : Bool, ns.isEmpty = e → (e = false → ns ≠ []) → (e = true → ns = []) → ∃ (v g' : Int) (env' : EnvD), exB noC b_draw [some (.r 0), some (.d (.int n)), none, none, none, none] (St0 ns t g) = .ret (.rt (.d (.int v)), env', St0 ns (t + 1) g') ∧ 0 ≤ v ∧ v < n ∧ 0 ≤ g' := fun e he q1 q2 => by
    cases hb : isBig ns t z with
    | false =>
      cases e with
      | true =>
        have e2 := ez (q2 rfl)
        subst e2
        refine ⟨m2 (90155 * t + 3037) t / 64 % n, g, [some (.r 0), some (.d (.int n)), some (.d (.int t)), some (.d (.int (90155 * t + 3037))), some (.d (.int (m2 (90155 * t + 3037) t))), none], ?_, Int.emod_nonneg _ (by omega), Int.emod_lt_of_pos _ hn, hg0⟩
        simp only [b_draw, s0__law_draw, s1__law_draw, s2__law_draw, y0__law_draw, s3__law_draw, s4__law_draw, s5__law_draw, s6__law_draw, s7__law_draw, y1__law_draw, s8__law_draw, s9__law_draw, s10__law_draw, s11__law_draw, y2__law_draw, s12__law_draw, s13__law_draw, s14__law_draw, s15__law_draw, exB, tstE, dx0, hg, exB, evE, evL, tstE, M.bnd, opt_some, bnd_ret, opt_bnd, mapO, List.length_cons, List.length_nil, List.map_cons, List.map_nil, List.replicate, List.getElem?_cons_zero, List.getElem?_cons_succ, List.cons_append, List.nil_append, if_true, if_false, Bool.false_eq_true, Nat.sub_self, Bool.true_and, Bool.and_true, Bool.false_and, Bool.and_false, Bool.not_true, Bool.not_false, Bool.or_false, Bool.false_or, Bool.true_or, Bool.or_true, decide_true, decide_false, Option.map_some, permD, setW, List.set_cons_zero, List.set_cons_succ, bindP, bindPs, v_rd, v_dat, v_non, v_bl, v_int, v_lst, v_tup, v_str, v_add, v_sub, v_cat, v_app, v_neg, v_lt, v_le, v_gt, v_ge, v_eq, v_isN, v_notN, v_in, v_nin, v_inS, v_eqI, v_eqS, v_neI, v_neS, v_lenS, v_lenL, v_lenT, v_repr, v_intI, v_intB, v_abs, v_ty_int_non, v_ty_int_bl, v_ty_int_int, v_ty_int_str, v_ty_int_lst, v_ty_int_tup, v_ty_int_dct, v_ty_bool_non, v_ty_bool_bl, v_ty_bool_int, v_ty_bool_str, v_ty_bool_lst, v_ty_bool_tup, v_ty_bool_dct, v_ty_str_non, v_ty_str_bl, v_ty_str_int, v_ty_str_str, v_ty_str_lst, v_ty_str_tup, v_ty_str_dct, v_ty_list_non, v_ty_list_bl, v_ty_list_int, v_ty_list_str, v_ty_list_lst, v_ty_list_tup, v_ty_list_dct, v_ty_tuple_non, v_ty_tuple_bl, v_ty_tuple_int, v_ty_tuple_str, v_ty_tuple_lst, v_ty_tuple_tup, v_ty_tuple_dct, v_ty_dict_non, v_ty_dict_bl, v_ty_dict_int, v_ty_dict_str, v_ty_dict_lst, v_ty_dict_tup, v_ty_dict_dct, v_isN_non, v_isN_int, v_isN_bl, v_isN_str, v_sliS, v_sliL, v_sliT, v_optN, v_optI, v_meT, v_join, v_walL, v_walT, v_walS, v_rng1, v_rng2, v_enum, v_zip, v_fewF, v_any1, v_any2, Nat.zero_add, Nat.reduceAdd, Nat.reduceLT, Nat.reduceLeDiff, Nat.reduceSub, Nat.reduceEqDiff, le_lim, v_rdr, v_s1, v_i1, dx3 h0 h1, dx4, he, dx6, hb, dx9 h0 h1, dx10 h0 h1, dx11 hn]
      | false =>
        refine ⟨m2 z t / 64 % n, g, [some (.r 0), some (.d (.int n)), some (.d (.int t)), some (.d (.int z)), some (.d (.int (m2 z t))), none], ?_, Int.emod_nonneg _ (by omega), Int.emod_lt_of_pos _ hn, hg0⟩
        simp only [b_draw, s0__law_draw, s1__law_draw, s2__law_draw, y0__law_draw, s3__law_draw, s4__law_draw, s5__law_draw, s6__law_draw, s7__law_draw, y1__law_draw, s8__law_draw, s9__law_draw, s10__law_draw, s11__law_draw, y2__law_draw, s12__law_draw, s13__law_draw, s14__law_draw, s15__law_draw, exB, tstE, dx0, hg, exB, evE, evL, tstE, M.bnd, opt_some, bnd_ret, opt_bnd, mapO, List.length_cons, List.length_nil, List.map_cons, List.map_nil, List.replicate, List.getElem?_cons_zero, List.getElem?_cons_succ, List.cons_append, List.nil_append, if_true, if_false, Bool.false_eq_true, Nat.sub_self, Bool.true_and, Bool.and_true, Bool.false_and, Bool.and_false, Bool.not_true, Bool.not_false, Bool.or_false, Bool.false_or, Bool.true_or, Bool.or_true, decide_true, decide_false, Option.map_some, permD, setW, List.set_cons_zero, List.set_cons_succ, bindP, bindPs, v_rd, v_dat, v_non, v_bl, v_int, v_lst, v_tup, v_str, v_add, v_sub, v_cat, v_app, v_neg, v_lt, v_le, v_gt, v_ge, v_eq, v_isN, v_notN, v_in, v_nin, v_inS, v_eqI, v_eqS, v_neI, v_neS, v_lenS, v_lenL, v_lenT, v_repr, v_intI, v_intB, v_abs, v_ty_int_non, v_ty_int_bl, v_ty_int_int, v_ty_int_str, v_ty_int_lst, v_ty_int_tup, v_ty_int_dct, v_ty_bool_non, v_ty_bool_bl, v_ty_bool_int, v_ty_bool_str, v_ty_bool_lst, v_ty_bool_tup, v_ty_bool_dct, v_ty_str_non, v_ty_str_bl, v_ty_str_int, v_ty_str_str, v_ty_str_lst, v_ty_str_tup, v_ty_str_dct, v_ty_list_non, v_ty_list_bl, v_ty_list_int, v_ty_list_str, v_ty_list_lst, v_ty_list_tup, v_ty_list_dct, v_ty_tuple_non, v_ty_tuple_bl, v_ty_tuple_int, v_ty_tuple_str, v_ty_tuple_lst, v_ty_tuple_tup, v_ty_tuple_dct, v_ty_dict_non, v_ty_dict_bl, v_ty_dict_int, v_ty_dict_str, v_ty_dict_lst, v_ty_dict_tup, v_ty_dict_dct, v_isN_non, v_isN_int, v_isN_bl, v_isN_str, v_sliS, v_sliL, v_sliT, v_optN, v_optI, v_meT, v_join, v_walL, v_walT, v_walS, v_rng1, v_rng2, v_enum, v_zip, v_fewF, v_any1, v_any2, Nat.zero_add, Nat.reduceAdd, Nat.reduceLT, Nat.reduceLeDiff, Nat.reduceSub, Nat.reduceEqDiff, le_lim, v_rdr, v_s1, v_i1, dx3 h0 h1, dx4, he, ex (q1 rfl), dx6, hb, dx9 h0 h1, dx10 h0 h1, dx11 hn]
    | true =>
      have hbig : 0 ≤ great z := great_nn (by
        unfold isBig at hb
        rw [Bool.and_eq_true, decide_eq_true_eq, decide_eq_true_eq] at hb
        exact hb.2)
      cases e with
      | true =>
        have e2 := ez (q2 rfl)
        subst e2
        refine ⟨great (90155 * t + 3037) % n, great (90155 * t + 3037) / n, [some (.r 0), some (.d (.int n)), some (.d (.int t)), some (.d (.int (90155 * t + 3037))), none, some (.d (.int (great (90155 * t + 3037))))], ?_, Int.emod_nonneg _ (by omega), Int.emod_lt_of_pos _ hn, Int.ediv_nonneg hbig (by omega)⟩
        simp only [b_draw, s0__law_draw, s1__law_draw, s2__law_draw, y0__law_draw, s3__law_draw, s4__law_draw, s5__law_draw, s6__law_draw, s7__law_draw, y1__law_draw, s8__law_draw, s9__law_draw, s10__law_draw, s11__law_draw, y2__law_draw, s12__law_draw, s13__law_draw, s14__law_draw, s15__law_draw, exB, tstE, dx0, hg, exB, evE, evL, tstE, M.bnd, opt_some, bnd_ret, opt_bnd, mapO, List.length_cons, List.length_nil, List.map_cons, List.map_nil, List.replicate, List.getElem?_cons_zero, List.getElem?_cons_succ, List.cons_append, List.nil_append, if_true, if_false, Bool.false_eq_true, Nat.sub_self, Bool.true_and, Bool.and_true, Bool.false_and, Bool.and_false, Bool.not_true, Bool.not_false, Bool.or_false, Bool.false_or, Bool.true_or, Bool.or_true, decide_true, decide_false, Option.map_some, permD, setW, List.set_cons_zero, List.set_cons_succ, bindP, bindPs, v_rd, v_dat, v_non, v_bl, v_int, v_lst, v_tup, v_str, v_add, v_sub, v_cat, v_app, v_neg, v_lt, v_le, v_gt, v_ge, v_eq, v_isN, v_notN, v_in, v_nin, v_inS, v_eqI, v_eqS, v_neI, v_neS, v_lenS, v_lenL, v_lenT, v_repr, v_intI, v_intB, v_abs, v_ty_int_non, v_ty_int_bl, v_ty_int_int, v_ty_int_str, v_ty_int_lst, v_ty_int_tup, v_ty_int_dct, v_ty_bool_non, v_ty_bool_bl, v_ty_bool_int, v_ty_bool_str, v_ty_bool_lst, v_ty_bool_tup, v_ty_bool_dct, v_ty_str_non, v_ty_str_bl, v_ty_str_int, v_ty_str_str, v_ty_str_lst, v_ty_str_tup, v_ty_str_dct, v_ty_list_non, v_ty_list_bl, v_ty_list_int, v_ty_list_str, v_ty_list_lst, v_ty_list_tup, v_ty_list_dct, v_ty_tuple_non, v_ty_tuple_bl, v_ty_tuple_int, v_ty_tuple_str, v_ty_tuple_lst, v_ty_tuple_tup, v_ty_tuple_dct, v_ty_dict_non, v_ty_dict_bl, v_ty_dict_int, v_ty_dict_str, v_ty_dict_lst, v_ty_dict_tup, v_ty_dict_dct, v_isN_non, v_isN_int, v_isN_bl, v_isN_str, v_sliS, v_sliL, v_sliT, v_optN, v_optI, v_meT, v_join, v_walL, v_walT, v_walS, v_rng1, v_rng2, v_enum, v_zip, v_fewF, v_any1, v_any2, Nat.zero_add, Nat.reduceAdd, Nat.reduceLT, Nat.reduceLeDiff, Nat.reduceSub, Nat.reduceEqDiff, le_lim, v_rdr, v_s1, v_i1, v_i2, dx3 h0 h1, dx4, he, dx6, hb, dx7, x8__law_draw, div_of hn hl, mod_of hn]
      | false =>
        refine ⟨great z % n, great z / n, [some (.r 0), some (.d (.int n)), some (.d (.int t)), some (.d (.int z)), none, some (.d (.int (great z)))], ?_, Int.emod_nonneg _ (by omega), Int.emod_lt_of_pos _ hn, Int.ediv_nonneg hbig (by omega)⟩
        simp only [b_draw, s0__law_draw, s1__law_draw, s2__law_draw, y0__law_draw, s3__law_draw, s4__law_draw, s5__law_draw, s6__law_draw, s7__law_draw, y1__law_draw, s8__law_draw, s9__law_draw, s10__law_draw, s11__law_draw, y2__law_draw, s12__law_draw, s13__law_draw, s14__law_draw, s15__law_draw, exB, tstE, dx0, hg, exB, evE, evL, tstE, M.bnd, opt_some, bnd_ret, opt_bnd, mapO, List.length_cons, List.length_nil, List.map_cons, List.map_nil, List.replicate, List.getElem?_cons_zero, List.getElem?_cons_succ, List.cons_append, List.nil_append, if_true, if_false, Bool.false_eq_true, Nat.sub_self, Bool.true_and, Bool.and_true, Bool.false_and, Bool.and_false, Bool.not_true, Bool.not_false, Bool.or_false, Bool.false_or, Bool.true_or, Bool.or_true, decide_true, decide_false, Option.map_some, permD, setW, List.set_cons_zero, List.set_cons_succ, bindP, bindPs, v_rd, v_dat, v_non, v_bl, v_int, v_lst, v_tup, v_str, v_add, v_sub, v_cat, v_app, v_neg, v_lt, v_le, v_gt, v_ge, v_eq, v_isN, v_notN, v_in, v_nin, v_inS, v_eqI, v_eqS, v_neI, v_neS, v_lenS, v_lenL, v_lenT, v_repr, v_intI, v_intB, v_abs, v_ty_int_non, v_ty_int_bl, v_ty_int_int, v_ty_int_str, v_ty_int_lst, v_ty_int_tup, v_ty_int_dct, v_ty_bool_non, v_ty_bool_bl, v_ty_bool_int, v_ty_bool_str, v_ty_bool_lst, v_ty_bool_tup, v_ty_bool_dct, v_ty_str_non, v_ty_str_bl, v_ty_str_int, v_ty_str_str, v_ty_str_lst, v_ty_str_tup, v_ty_str_dct, v_ty_list_non, v_ty_list_bl, v_ty_list_int, v_ty_list_str, v_ty_list_lst, v_ty_list_tup, v_ty_list_dct, v_ty_tuple_non, v_ty_tuple_bl, v_ty_tuple_int, v_ty_tuple_str, v_ty_tuple_lst, v_ty_tuple_tup, v_ty_tuple_dct, v_ty_dict_non, v_ty_dict_bl, v_ty_dict_int, v_ty_dict_str, v_ty_dict_lst, v_ty_dict_tup, v_ty_dict_dct, v_isN_non, v_isN_int, v_isN_bl, v_isN_str, v_sliS, v_sliL, v_sliT, v_optN, v_optI, v_meT, v_join, v_walL, v_walT, v_walS, v_rng1, v_rng2, v_enum, v_zip, v_fewF, v_any1, v_any2, Nat.zero_add, Nat.reduceAdd, Nat.reduceLT, Nat.reduceLeDiff, Nat.reduceSub, Nat.reduceEqDiff, le_lim, v_rdr, v_s1, v_i1, v_i2, dx3 h0 h1, dx4, he, ex (q1 rfl), dx6, hb, dx7, x8__law_draw, div_of hn hl, mod_of hn]
  cases hns : ns with
  | nil => rw [← hns]; exact key true (by rw [hns]; rfl) (fun q => by cases q) fun _ => hns
  | cons a b => rw [← hns]; exact key false (by rw [hns]; rfl) (fun _ q => by rw [hns] at q; cases q) fun q => by cases q
theorem draw_law : DrawLaw (N_draw.length - 2) b_draw := by
  intro n t g ns hn hn2 h0 h1 hg0
  have hl : n.natAbs.log2 < 9000 := Nat.lt_trans (big_log (by omega) hn2 (by decide)) (by decide)
  constructor
  show (exB noC b_draw [some (.r 0), some (.d (.int n)), none, none, none, none] (St0 ns t g)).wp _ _
  by_cases hg : 0 < g
  · rw [case1 hn hl hg]
    exact ⟨g % n, t, g / n, rfl, Int.emod_nonneg _ (by omega), Int.emod_lt_of_pos _ hn, rfl, h0, by omega, Int.ediv_nonneg hg0 (by omega)⟩
  · have step : ∃ (v g' : Int) (env' : EnvD), exB noC b_draw [some (.r 0), some (.d (.int n)), none, none, none, none] (St0 ns t g) = .ret (.rt (.d (.int v)), env', St0 ns (t + 1) g') ∧ 0 ≤ v ∧ v < n ∧ 0 ≤ g' := by
      by_cases hns : ns = []
      · exact tail0 (z := 90155 * t + 3037) hn hl h0 h1 hg0 (fun _ => rfl) (fun q => absurd hns q) hg
      · obtain ⟨z, ez⟩ := dx5 (n := n) (t := t) (g := g) (a3 := some (.d (.int (90155 * t + 3037)))) (a4 := none) (a5 := none) hns
        exact tail0 hn hl h0 h1 hg0 (fun q => absurd q hns) (fun _ => ez) hg
    obtain ⟨v, g', env', e, v0, v1, g0⟩ := step
    rw [e]
    exact ⟨v, t + 1, g', rfl, v0, v1, rfl, by omega, Int.le_refl _, g0⟩
end RL.T.Dr
theorem RL.T.draw_law : RL.DrawLaw (RL.T.N_draw.length - 2) RL.T.b_draw := RL.T.Dr.draw_law
end

section
set_option Elab.async false
set_option linter.all false
set_option maxRecDepth 100000
set_option maxHeartbeats 2000000
namespace RL.T
open PySem PySem.Spec PyProof.Rows L2
theorem all_mk {l : PySem.W.OpenLaw} {w : World} {K : PySem.W.Frag} {h : Heap} {mg : Str → Option Value} {fa f0 f1 f2 f3 f4 f5 f6 f7 f8 f9 f10 f11 f12 f13 f14 f15 : Addr} (X : K.In h) (G : h.Ns mainGlobals mg) (hfa : mg "law" = some (.ref fa))
    {od0 an0 od1 an1 od2 an2 od3 an3 od4 an4 od5 an5 od6 an6 od7 an7 od8 an8 od9 an9 od10 an10 od11 an11 od12 an12 od13 an13 od14 an14 od15 an15 : Option Addr} {sl0 sl1 sl2 sl3 sl4 sl5 sl6 sl7 sl8 sl9 sl10 sl11 sl12 sl13 sl14 sl15 : Array (Option Value)} {oc0 kV0 dc0 pm0 cd0 ct0 oc1 kV1 dc1 pm1 cd1 ct1 oc2 kV2 dc2 pm2 cd2 ct2 oc3 kV3 dc3 pm3 cd3 ct3 oc4 kV4 dc4 pm4 cd4 ct4 oc5 kV5 dc5 pm5 cd5 ct5 oc6 kV6 dc6 pm6 cd6 ct6 oc7 kV7 dc7 pm7 cd7 ct7 oc8 kV8 dc8 pm8 cd8 ct8 oc9 kV9 dc9 pm9 cd9 ct9 oc10 kV10 dc10 pm10 cd10 ct10 oc11 kV11 dc11 pm11 cd11 ct11 oc12 kV12 dc12 pm12 cd12 ct12 oc13 kV13 dc13 pm13 cd13 ct13 oc14 kV14 dc14 pm14 cd14 ct14 oc15 kV15 dc15 pm15 cd15 ct15 : Value} 
    (a0 : PySem.W.nsIn K mainGlobals "greatest_divisor" = some (some (.ref f0)))
    (l0 : K.lookup f0 = some ⟨oc0, od0, .func (PySem.W.fnOf "greatest_divisor" "greatest_divisor" (defArgs (top 1)) (defBody (top 1)) (defScope (top 1)) .none kV0 dc0 pm0 an0 cd0 ct0), sl0⟩) (c0 : PySem.W.codeIn K cd0 "greatest_divisor" = true) (k0 : PySem.W.keepIn K (.ref f0) = true)
    (a1 : PySem.W.nsIn K mainGlobals "shrunk" = some (some (.ref f1)))
    (l1 : K.lookup f1 = some ⟨oc1, od1, .func (PySem.W.fnOf "shrunk" "shrunk" (defArgs (top 2)) (defBody (top 2)) (defScope (top 2)) .none kV1 dc1 pm1 an1 cd1 ct1), sl1⟩) (c1 : PySem.W.codeIn K cd1 "shrunk" = true) (k1 : PySem.W.keepIn K (.ref f1) = true)
    (a2 : PySem.W.nsIn K mainGlobals "stepped" = some (some (.ref f2)))
    (l2 : K.lookup f2 = some ⟨oc2, od2, .func (PySem.W.fnOf "stepped" "stepped" (defArgs (top 3)) (defBody (top 3)) (defScope (top 3)) .none kV2 dc2 pm2 an2 cd2 ct2), sl2⟩) (c2 : PySem.W.codeIn K cd2 "stepped" = true) (k2 : PySem.W.keepIn K (.ref f2) = true)
    (a3 : PySem.W.nsIn K mainGlobals "cleared" = some (some (.ref f3)))
    (l3 : K.lookup f3 = some ⟨oc3, od3, .func (PySem.W.fnOf "cleared" "cleared" (defArgs (top 4)) (defBody (top 4)) (defScope (top 4)) .none kV3 dc3 pm3 an3 cd3 ct3), sl3⟩) (c3 : PySem.W.codeIn K cd3 "cleared" = true) (k3 : PySem.W.keepIn K (.ref f3) = true)
    (a4 : PySem.W.nsIn K mainGlobals "rank_of" = some (some (.ref f4)))
    (l4 : K.lookup f4 = some ⟨oc4, od4, .func (PySem.W.fnOf "rank_of" "rank_of" (defArgs (top 5)) (defBody (top 5)) (defScope (top 5)) .none kV4 dc4 pm4 an4 cd4 ct4), sl4⟩) (c4 : PySem.W.codeIn K cd4 "rank_of" = true) (k4 : PySem.W.keepIn K (.ref f4) = true)
    (a5 : PySem.W.nsIn K mainGlobals "noughts" = some (some (.ref f5)))
    (l5 : K.lookup f5 = some ⟨oc5, od5, .func (PySem.W.fnOf "noughts" "noughts" (defArgs (top 6)) (defBody (top 6)) (defScope (top 6)) .none kV5 dc5 pm5 an5 cd5 ct5), sl5⟩) (c5 : PySem.W.codeIn K cd5 "noughts" = true) (k5 : PySem.W.keepIn K (.ref f5) = true)
    (a6 : PySem.W.nsIn K mainGlobals "product" = some (some (.ref f6)))
    (l6 : K.lookup f6 = some ⟨oc6, od6, .func (PySem.W.fnOf "product" "product" (defArgs (top 7)) (defBody (top 7)) (defScope (top 7)) .none kV6 dc6 pm6 an6 cd6 ct6), sl6⟩) (c6 : PySem.W.codeIn K cd6 "product" = true) (k6 : PySem.W.keepIn K (.ref f6) = true)
    (a7 : PySem.W.nsIn K mainGlobals "_law_pick" = some (some (.ref f7)))
    (l7 : K.lookup f7 = some ⟨oc7, od7, .func (PySem.W.fnOf "_law_pick" "_law_pick" (defArgs (top 11)) (defBody (top 11)) (defScope (top 11)) .none kV7 dc7 pm7 an7 cd7 ct7), sl7⟩) (c7 : PySem.W.codeIn K cd7 "_law_pick" = true) (k7 : PySem.W.keepIn K (.ref f7) = true)
    (a8 : PySem.W.nsIn K mainGlobals "_law_rank" = some (some (.ref f8)))
    (l8 : K.lookup f8 = some ⟨oc8, od8, .func (PySem.W.fnOf "_law_rank" "_law_rank" (defArgs (top 12)) (defBody (top 12)) (defScope (top 12)) .none kV8 dc8 pm8 an8 cd8 ct8), sl8⟩) (c8 : PySem.W.codeIn K cd8 "_law_rank" = true) (k8 : PySem.W.keepIn K (.ref f8) = true)
    (a9 : PySem.W.nsIn K mainGlobals "_law_dot" = some (some (.ref f9)))
    (l9 : K.lookup f9 = some ⟨oc9, od9, .func (PySem.W.fnOf "_law_dot" "_law_dot" (defArgs (top 13)) (defBody (top 13)) (defScope (top 13)) .none kV9 dc9 pm9 an9 cd9 ct9), sl9⟩) (c9 : PySem.W.codeIn K cd9 "_law_dot" = true) (k9 : PySem.W.keepIn K (.ref f9) = true)
    (a10 : PySem.W.nsIn K mainGlobals "_law_rows" = some (some (.ref f10)))
    (l10 : K.lookup f10 = some ⟨oc10, od10, .func (PySem.W.fnOf "_law_rows" "_law_rows" (defArgs (top 14)) (defBody (top 14)) (defScope (top 14)) .none kV10 dc10 pm10 an10 cd10 ct10), sl10⟩) (c10 : PySem.W.codeIn K cd10 "_law_rows" = true) (k10 : PySem.W.keepIn K (.ref f10) = true)
    (a11 : PySem.W.nsIn K mainGlobals "_law_divisor" = some (some (.ref f11)))
    (l11 : K.lookup f11 = some ⟨oc11, od11, .func (PySem.W.fnOf "_law_divisor" "_law_divisor" (defArgs (top 15)) (defBody (top 15)) (defScope (top 15)) .none kV11 dc11 pm11 an11 cd11 ct11), sl11⟩) (c11 : PySem.W.codeIn K cd11 "_law_divisor" = true) (k11 : PySem.W.keepIn K (.ref f11) = true)
    (a12 : PySem.W.nsIn K mainGlobals "_law_right" = some (some (.ref f12)))
    (l12 : K.lookup f12 = some ⟨oc12, od12, .func (PySem.W.fnOf "_law_right" "_law_right" (defArgs (top 16)) (defBody (top 16)) (defScope (top 16)) .none kV12 dc12 pm12 an12 cd12 ct12), sl12⟩) (c12 : PySem.W.codeIn K cd12 "_law_right" = true) (k12 : PySem.W.keepIn K (.ref f12) = true)
    (a13 : PySem.W.nsIn K mainGlobals "_law_pen" = some (some (.ref f13)))
    (l13 : K.lookup f13 = some ⟨oc13, od13, .func (PySem.W.fnOf "_law_pen" "_law_pen" (defArgs (top 9)) (defBody (top 9)) (defScope (top 9)) .none kV13 dc13 pm13 an13 cd13 ct13), sl13⟩) (c13 : PySem.W.codeIn K cd13 "_law_pen" = true) (k13 : PySem.W.keepIn K (.ref f13) = true)
    (a14 : PySem.W.nsIn K mainGlobals "_law_draw" = some (some (.ref f14)))
    (l14 : K.lookup f14 = some ⟨oc14, od14, .func (PySem.W.fnOf "_law_draw" "_law_draw" (defArgs (top 10)) (defBody (top 10)) (defScope (top 10)) .none kV14 dc14 pm14 an14 cd14 ct14), sl14⟩) (c14 : PySem.W.codeIn K cd14 "_law_draw" = true) (k14 : PySem.W.keepIn K (.ref f14) = true)
    (a15 : PySem.W.nsIn K mainGlobals "law" = some (some (.ref f15)))
    (l15 : K.lookup f15 = some ⟨oc15, od15, .func (PySem.W.fnOf "law" "law" (defArgs (top 17)) (defBody (top 17)) (defScope (top 17)) .none kV15 dc15 pm15 an15 cd15 ct15), sl15⟩) (c15 : PySem.W.codeIn K cd15 "law" = true) (k15 : PySem.W.keepIn K (.ref f15) = true)
    (z0 : PySem.W.nsIn K mainGlobals "abs" = some none)
    (z1 : PySem.W.nsIn K mainGlobals "enumerate" = some none)
    (z2 : PySem.W.nsIn K mainGlobals "int" = some none)
    (z3 : PySem.W.nsIn K mainGlobals "len" = some none)
    (z4 : PySem.W.nsIn K mainGlobals "list" = some none)
    (z5 : PySem.W.nsIn K mainGlobals "max" = some none)
    (z6 : PySem.W.nsIn K mainGlobals "range" = some none)
    (z7 : PySem.W.nsIn K mainGlobals "repr" = some none)
    (z8 : PySem.W.nsIn K mainGlobals "sum" = some none)
    (z9 : PySem.W.nsIn K mainGlobals "zip" = some none) :
    ∃ fd : FuncData, (∀ (s : Shared) (v : Value), BindsTo s fd ⟨[v], []⟩ [("script", v)]) ∧ ∀ base : Heap, K.In base → base.Ns mainGlobals mg → FnG l.prog w K mg base CX0 6 fa fd ["script"] (spLaw K 63) := by
  have e := hfa.symm.trans (PySem.W.mg_of X G a15)
  cases e
  have F0 := fun_mk (st := top 1) l0 c0 k0
  have F1 := fun_mk (st := top 2) l1 c1 k1
  have F2 := fun_mk (st := top 3) l2 c2 k2
  have F3 := fun_mk (st := top 4) l3 c3 k3
  have F4 := fun_mk (st := top 5) l4 c4 k4
  have F5 := fun_mk (st := top 6) l5 c5 k5
  have F6 := fun_mk (st := top 7) l6 c6 k6
  have F7 := fun_mk (st := top 11) l7 c7 k7
  have F8 := fun_mk (st := top 12) l8 c8 k8
  have F9 := fun_mk (st := top 13) l9 c9 k9
  have F10 := fun_mk (st := top 14) l10 c10 k10
  have F11 := fun_mk (st := top 15) l11 c11 k11
  have F12 := fun_mk (st := top 16) l12 c12 k12
  have F13 := fun_mk (st := top 9) l13 c13 k13
  have F14 := fun_mk (st := top 10) l14 c14 k14
  have F15 := fun_mk (st := top 17) l15 c15 k15
  refine ⟨PySem.W.fnOf "law" "law" (defArgs (top i_law)) (defBody (top i_law)) (defScope (top i_law)) .none kV15 dc15 pm15 an15 cd15 ct15, fun s v => .of_eq rfl, fun base hK hN => ?_⟩
  have cx : CxOk l.prog w K mg base CX0 := ⟨fun _ _ _ _ _ _ _ _ _ _ _ _ _ _ _ _ _ h => h.elim, fun _ _ _ _ _ _ _ _ h => h.elim⟩
  let fA : Nat → Addr := fun i => [f0, f1, f2, f3, f4, f5, f6, f7, f8, f9, f10, f11, f12].getD i 0
  let fdA : Nat → FuncData := fun i => match i with
    | 0 => PySem.W.fnOf "greatest_divisor" "greatest_divisor" (defArgs (top 1)) (defBody (top 1)) (defScope (top 1)) .none kV0 dc0 pm0 an0 cd0 ct0
    | 1 => PySem.W.fnOf "shrunk" "shrunk" (defArgs (top 2)) (defBody (top 2)) (defScope (top 2)) .none kV1 dc1 pm1 an1 cd1 ct1
    | 2 => PySem.W.fnOf "stepped" "stepped" (defArgs (top 3)) (defBody (top 3)) (defScope (top 3)) .none kV2 dc2 pm2 an2 cd2 ct2
    | 3 => PySem.W.fnOf "cleared" "cleared" (defArgs (top 4)) (defBody (top 4)) (defScope (top 4)) .none kV3 dc3 pm3 an3 cd3 ct3
    | 4 => PySem.W.fnOf "rank_of" "rank_of" (defArgs (top 5)) (defBody (top 5)) (defScope (top 5)) .none kV4 dc4 pm4 an4 cd4 ct4
    | 5 => PySem.W.fnOf "noughts" "noughts" (defArgs (top 6)) (defBody (top 6)) (defScope (top 6)) .none kV5 dc5 pm5 an5 cd5 ct5
    | 6 => PySem.W.fnOf "product" "product" (defArgs (top 7)) (defBody (top 7)) (defScope (top 7)) .none kV6 dc6 pm6 an6 cd6 ct6
    | 7 => PySem.W.fnOf "_law_pick" "_law_pick" (defArgs (top 11)) (defBody (top 11)) (defScope (top 11)) .none kV7 dc7 pm7 an7 cd7 ct7
    | 8 => PySem.W.fnOf "_law_rank" "_law_rank" (defArgs (top 12)) (defBody (top 12)) (defScope (top 12)) .none kV8 dc8 pm8 an8 cd8 ct8
    | 9 => PySem.W.fnOf "_law_dot" "_law_dot" (defArgs (top 13)) (defBody (top 13)) (defScope (top 13)) .none kV9 dc9 pm9 an9 cd9 ct9
    | 10 => PySem.W.fnOf "_law_rows" "_law_rows" (defArgs (top 14)) (defBody (top 14)) (defScope (top 14)) .none kV10 dc10 pm10 an10 cd10 ct10
    | 11 => PySem.W.fnOf "_law_divisor" "_law_divisor" (defArgs (top 15)) (defBody (top 15)) (defScope (top 15)) .none kV11 dc11 pm11 an11 cd11 ct11
    | _ => PySem.W.fnOf "_law_right" "_law_right" (defArgs (top 16)) (defBody (top 16)) (defScope (top 16)) .none kV12 dc12 pm12 an12 cd12 ct12
  have Fc : Facts K mg ⟨K, fA, fun _ => .none⟩ tbl fdA := by
    refine ⟨fun i e he => ?_, fun x d hd => ?_, fun x hx => ?_⟩
    · have hi : i < 13 := by
        have := (List.getElem?_eq_some_iff.mp he).1
        exact this
      match i, hi with
      | 0, _ =>
        cases Option.some.inj he
        refine ⟨PySem.W.mg_of X G a0, F0, fun s us _ hl => (match us, hl with | [_], _ => .of_eq rfl), fun np ks perm hkb s us ws _ h1 h2 h3 => ?_⟩
        simp only [tbl, List.mem_cons, List.not_mem_nil, or_false, Prod.mk.injEq] at hkb
        rcases hkb with ⟨q0, q1, q2, q3⟩ | ⟨q0, q1, q2, q3⟩ | ⟨q0, q1, q2, q3⟩ | ⟨q0, q1, q2, q3⟩ | ⟨q0, q1, q2, q3⟩
        · cases q0
        · cases q0
        · cases q0
        · subst q1 q2 q3
          exact (match us, ws, h1, h2 with | [], [_], _, _ => .of_eq rfl)
        · cases q0
      | 1, _ =>
        cases Option.some.inj he
        refine ⟨PySem.W.mg_of X G a1, F1, fun s us _ hl => (match us, hl with | [_], _ => .of_eq rfl), fun np ks perm hkb s us ws _ h1 h2 h3 => ?_⟩
        simp only [tbl, List.mem_cons, List.not_mem_nil, or_false, Prod.mk.injEq] at hkb
        rcases hkb with ⟨q0, q1, q2, q3⟩ | ⟨q0, q1, q2, q3⟩ | ⟨q0, q1, q2, q3⟩ | ⟨q0, q1, q2, q3⟩ | ⟨q0, q1, q2, q3⟩
        · cases q0
        · cases q0
        · subst q1 q2 q3
          exact (match us, ws, h1, h2 with | [], [_], _, _ => .of_eq rfl)
        · cases q0
        · cases q0
      | 2, _ =>
        cases Option.some.inj he
        refine ⟨PySem.W.mg_of X G a2, F2, fun s us _ hl => (match us, hl with | [_], _ => .of_eq rfl), fun np ks perm hkb s us ws _ h1 h2 h3 => ?_⟩
        simp [tbl] at hkb
      | 3, _ =>
        cases Option.some.inj he
        refine ⟨PySem.W.mg_of X G a3, F3, fun s us _ hl => (match us, hl with | [_, _, _, _], _ => .of_eq rfl), fun np ks perm hkb s us ws _ h1 h2 h3 => ?_⟩
        simp [tbl] at hkb
      | 4, _ =>
        cases Option.some.inj he
        refine ⟨PySem.W.mg_of X G a4, F4, fun s us _ hl => (match us, hl with | [_], _ => .of_eq rfl), fun np ks perm hkb s us ws _ h1 h2 h3 => ?_⟩
        simp only [tbl, List.mem_cons, List.not_mem_nil, or_false, Prod.mk.injEq] at hkb
        rcases hkb with ⟨q0, q1, q2, q3⟩ | ⟨q0, q1, q2, q3⟩ | ⟨q0, q1, q2, q3⟩ | ⟨q0, q1, q2, q3⟩ | ⟨q0, q1, q2, q3⟩
        · subst q1 q2 q3
          exact (match us, ws, h1, h2 with | [], [_], _, _ => .of_eq rfl)
        · cases q0
        · cases q0
        · cases q0
        · cases q0
      | 5, _ =>
        cases Option.some.inj he
        refine ⟨PySem.W.mg_of X G a5, F5, fun s us _ hl => (match us, hl with | [_, _], _ => .of_eq rfl), fun np ks perm hkb s us ws _ h1 h2 h3 => ?_⟩
        simp only [tbl, List.mem_cons, List.not_mem_nil, or_false, Prod.mk.injEq] at hkb
        rcases hkb with ⟨q0, q1, q2, q3⟩ | ⟨q0, q1, q2, q3⟩ | ⟨q0, q1, q2, q3⟩ | ⟨q0, q1, q2, q3⟩ | ⟨q0, q1, q2, q3⟩
        · cases q0
        · subst q1 q2 q3
          exact (match us, ws, h1, h2 with | [], [_, _], _, _ => .of_eq rfl)
        · cases q0
        · cases q0
        · cases q0
      | 6, _ =>
        cases Option.some.inj he
        refine ⟨PySem.W.mg_of X G a6, F6, fun s us _ hl => (match us, hl with | [_, _], _ => .of_eq rfl), fun np ks perm hkb s us ws _ h1 h2 h3 => ?_⟩
        simp only [tbl, List.mem_cons, List.not_mem_nil, or_false, Prod.mk.injEq] at hkb
        rcases hkb with ⟨q0, q1, q2, q3⟩ | ⟨q0, q1, q2, q3⟩ | ⟨q0, q1, q2, q3⟩ | ⟨q0, q1, q2, q3⟩ | ⟨q0, q1, q2, q3⟩
        · cases q0
        · cases q0
        · cases q0
        · cases q0
        · subst q1 q2 q3
          exact (match us, ws, h1, h2 with | [], [_, _], _, _ => .of_eq rfl)
      | 7, _ =>
        cases Option.some.inj he
        refine ⟨PySem.W.mg_of X G a7, F7, fun s us _ hl => (match us, hl with | [_, _], _ => .of_eq rfl), fun np ks perm hkb s us ws _ h1 h2 h3 => ?_⟩
        simp [tbl] at hkb
      | 8, _ =>
        cases Option.some.inj he
        refine ⟨PySem.W.mg_of X G a8, F8, fun s us _ hl => (match us, hl with | [_], _ => .of_eq rfl), fun np ks perm hkb s us ws _ h1 h2 h3 => ?_⟩
        simp [tbl] at hkb
      | 9, _ =>
        cases Option.some.inj he
        refine ⟨PySem.W.mg_of X G a9, F9, fun s us _ hl => (match us, hl with | [_, _], _ => .of_eq rfl), fun np ks perm hkb s us ws _ h1 h2 h3 => ?_⟩
        simp [tbl] at hkb
      | 10, _ =>
        cases Option.some.inj he
        refine ⟨PySem.W.mg_of X G a10, F10, fun s us _ hl => (match us, hl with | [_, _], _ => .of_eq rfl), fun np ks perm hkb s us ws _ h1 h2 h3 => ?_⟩
        simp [tbl] at hkb
      | 11, _ =>
        cases Option.some.inj he
        refine ⟨PySem.W.mg_of X G a11, F11, fun s us _ hl => (match us, hl with | [_], _ => .of_eq rfl), fun np ks perm hkb s us ws _ h1 h2 h3 => ?_⟩
        simp [tbl] at hkb
      | 12, _ =>
        cases Option.some.inj he
        refine ⟨PySem.W.mg_of X G a12, F12, fun s us _ hl => (match us, hl with | [_], _ => .of_eq rfl), fun np ks perm hkb s us ws _ h1 h2 h3 => ?_⟩
        simp [tbl] at hkb
    · have hm := PySem.mem_of_lookup hd
      simp only [tbl, List.mem_cons, List.not_mem_nil, or_false, Prod.mk.injEq] at hm
    · have hx : x ∈ (["abs", "enumerate", "int", "len", "list", "max", "range", "repr", "sum", "zip"] : List Str) := hx
      simp only [List.mem_cons, List.not_mem_nil, or_false] at hx
      rcases hx with rfl | rfl | rfl | rfl | rfl | rfl | rfl | rfl | rfl | rfl
      · exact PySem.W.mg_none_of X G z0
      · exact PySem.W.mg_none_of X G z1
      · exact PySem.W.mg_none_of X G z2
      · exact PySem.W.mg_none_of X G z3
      · exact PySem.W.mg_none_of X G z4
      · exact PySem.W.mg_none_of X G z5
      · exact PySem.W.mg_none_of X G z6
      · exact PySem.W.mg_none_of X G z7
      · exact PySem.W.mg_none_of X G z8
      · exact PySem.W.mg_none_of X G z9
  have hblt : ∀ x ∈ blt_draw, mg x = none := fun x hx => by
    have hx : x ∈ (["abs", "int", "len"] : List Str) := hx
    simp only [List.mem_cons, List.not_mem_nil, or_false] at hx
    rcases hx with rfl | rfl | rfl
    · exact PySem.W.mg_none_of X G z0
    · exact PySem.W.mg_none_of X G z2
    · exact PySem.W.mg_none_of X G z3
  have GD : FnG l.prog w K mg base CX0 1 f14 (PySem.W.fnOf "_law_draw" "_law_draw" (defArgs (top 10)) (defBody (top 10)) (defScope (top 10)) .none kV14 dc14 pm14 an14 cd14 ct14) ["pen", "many"] (spDraw ⟨K, fA, fun _ => .none⟩) := draw_ok cx F14 rfl (by decide) draw_fs hblt draw_chk draw_few draw_law
  have dr : DrawOk l.prog w K mg base CX0 ⟨K, fA, fun _ => .none⟩ tbl.drw := fun _ => ⟨f14, _, _, PySem.W.mg_of X G a14, F14.kp, GD, fun s us _ hl => (match us, hl with | [_, _], _ => .of_eq rfl)⟩
  have GP : FnG l.prog w K mg base CX0 5 f13 (PySem.W.fnOf "_law_pen" "_law_pen" (defArgs (top 9)) (defBody (top 9)) (defScope (top 9)) .none kV13 dc13 pm13 an13 cd13 ct13) ["script"] (spPen K 63) := 
    (pen_okA (y1 := "script") (y2 := "cell") (m := 0) cx F13 (by decide +kernel) rfl (by decide) (fun x hx => by rw [List.mem_singleton.mp hx]; exact PySem.W.mg_none_of X G z2) (by decide +kernel) (by decide +kernel) (by decide +kernel) (by decide +kernel) (by decide +kernel) (by decide +kernel) (by decide +kernel)).mono (by decide)
  have hcost : costB tbl.T costs := costs_of costs_ok
  exact law_ok (m := 4) (n := 63) (j := 1) (lw := ⟨"law", top i_law, ⟨0, 0, .nil⟩, N_law, []⟩) (body := b_law) (c := costs) (mm := law_cost) tbl_chk cx Fc dr F15 law_fs rfl (by decide +kernel) rfl (by decide +kernel) (by decide +kernel) (by decide +kernel) (by decide +kernel) (PySem.W.mg_of X G a13) F13 GP (fun s us _ hl => (match us, hl with | [_], _ => .of_eq rfl)) law_chk hcost law_few (by decide +kernel) law_true
end RL.T
open PySem PySem.W PyProof.Rows in
set_option maxRecDepth 100000 in
set_option maxHeartbeats 0 in
theorem PySem.Challenge.cw_likecells_k02_rows_of_integers_holds : PySem.Challenge.rw_likecells_k02_rows_of_integers.Holds := by
  w_on; o_law; k_head; (case hw => w_witness2)
  k_fill
  refine RL.walkG (l := PySem.Challenge.rw_likecells_k02_rows_of_integers) (n := 63) (k := 6) (x := "script") (CX := L2.CX0) rfl (by decide) rfl ⟨rfl, by decide, by decide⟩ (fun w h Y => PySem.W.kIn_of Y) ?F fun _ _ _ _ z => z
  case F =>
    intro w mg fa h KX G hmg
    refine' RL.T.all_mk KX G hmg ?a0 ?l0 ?c0 ?k0 ?a1 ?l1 ?c1 ?k1 ?a2 ?l2 ?c2 ?k2 ?a3 ?l3 ?c3 ?k3 ?a4 ?l4 ?c4 ?k4 ?a5 ?l5 ?c5 ?k5 ?a6 ?l6 ?c6 ?k6 ?a7 ?l7 ?c7 ?k7 ?a8 ?l8 ?c8 ?k8 ?a9 ?l9 ?c9 ?k9 ?a10 ?l10 ?c10 ?k10 ?a11 ?l11 ?c11 ?k11 ?a12 ?l12 ?c12 ?k12 ?a13 ?l13 ?c13 ?k13 ?a14 ?l14 ?c14 ?k14 ?a15 ?l15 ?c15 ?k15 ?z0 ?z1 ?z2 ?z3 ?z4 ?z5 ?z6 ?z7 ?z8 ?z9
    (case a0 => k_is)
    (case l0 => k_is)
    (case c0 => k_is)
    (case k0 => k_is)
    (case a1 => k_is)
    (case l1 => k_is)
    (case c1 => k_is)
    (case k1 => k_is)
    (case a2 => k_is)
    (case l2 => k_is)
    (case c2 => k_is)
    (case k2 => k_is)
    (case a3 => k_is)
    (case l3 => k_is)
    (case c3 => k_is)
    (case k3 => k_is)
    (case a4 => k_is)
    (case l4 => k_is)
    (case c4 => k_is)
    (case k4 => k_is)
    (case a5 => k_is)
    (case l5 => k_is)
    (case c5 => k_is)
    (case k5 => k_is)
    (case a6 => k_is)
    (case l6 => k_is)
    (case c6 => k_is)
    (case k6 => k_is)
    (case a7 => k_is)
    (case l7 => k_is)
    (case c7 => k_is)
    (case k7 => k_is)
    (case a8 => k_is)
    (case l8 => k_is)
    (case c8 => k_is)
    (case k8 => k_is)
    (case a9 => k_is)
    (case l9 => k_is)
    (case c9 => k_is)
    (case k9 => k_is)
    (case a10 => k_is)
    (case l10 => k_is)
    (case c10 => k_is)
    (case k10 => k_is)
    (case a11 => k_is)
    (case l11 => k_is)
    (case c11 => k_is)
    (case k11 => k_is)
    (case a12 => k_is)
    (case l12 => k_is)
    (case c12 => k_is)
    (case k12 => k_is)
    (case a13 => k_is)
    (case l13 => k_is)
    (case c13 => k_is)
    (case k13 => k_is)
    (case a14 => k_is)
    (case l14 => k_is)
    (case c14 => k_is)
    (case k14 => k_is)
    (case a15 => k_is)
    (case l15 => k_is)
    (case c15 => k_is)
    (case k15 => k_is)
    (case z0 => k_is)
    (case z1 => k_is)
    (case z2 => k_is)
    (case z3 => k_is)
    (case z4 => k_is)
    (case z5 => k_is)
    (case z6 => k_is)
    (case z7 => k_is)
    (case z8 => k_is)
    (case z9 => k_is)
end
