import PyProof.Rows.All
import Wide.All
import OpenK.AllK
import Wide.FinOn
import HandS.ForMost
import HandS.Evl
import HandS.Wide
import HandS.IsInst
import HandS.TupLe
import HandS.Steps
import HandS.EndBits
import PyProof.ReprRoads
import PyProof.ReprLen
import PyProof.FitsInt
import PySem.Challenge.RW_farshelf_k22_overrun
set_option Elab.async false
set_option maxRecDepth 100000
set_option linter.all false
/-! FsMem: what is kept for good (P) and what may change (a list of pieces), side by side. -/
namespace FS
open PySem L2 Evl

def Dj (h1 h2 : Hp) : Prop := ∀ a, h1 a = none ∨ h2 a = none
theorem Dj.symm {h1 h2 : Hp} (d : Dj h1 h2) : Dj h2 h1 := fun a => (d a).symm
theorem Dj.left {h1 h2 : Hp} (d : Dj h1 h2) {a : Addr} {o : HO} (e : h1 a = some o) : h2 a = none := by
  rcases d a with z | z
  · rw [e] at z; cases z
  · exact z
theorem Dj.right {h1 h2 : Hp} (d : Dj h1 h2) {a : Addr} {o : HO} (e : h2 a = some o) : h1 a = none := d.symm.left e
theorem Dj.sub {h1 h2 k1 k2 : Hp} (d : Dj h1 h2) (e1 : Ex k1 h1) (e2 : Ex k2 h2) : Dj k1 k2 := fun a => by
  cases q : k1 a with
  | none => exact .inl rfl
  | some o =>
    right
    exact fresh_back e2 (d.left (e1 a o q))
def emp : Hp := fun _ => none
theorem emp_ex {h : Hp} : Ex emp h := fun _ _ e => by cases e
def sgl (p : Addr) (o : HO) : Hp := fun b => if b = p then some o else none
def Jn (h1 h2 : Hp) : Hp := fun a => match h1 a with | some o => some o | none => h2 a
theorem Jn.l {h1 h2 : Hp} : Ex h1 (Jn h1 h2) := fun a o e => by unfold Jn; rw [e]
theorem Jn.r {h1 h2 : Hp} (d : Dj h1 h2) : Ex h2 (Jn h1 h2) := fun a o e => by unfold Jn; rw [d.right e]; exact e
theorem Jn.le {h1 h2 h : Hp} (a : Ex h1 h) (b : Ex h2 h) : Ex (Jn h1 h2) h := fun x o e => by
  unfold Jn at e
  cases q : h1 x with
  | none => rw [q] at e; exact b x o e
  | some u => rw [q] at e; exact a x o (q.trans e)
theorem Jn.dj {h1 h2 k : Hp} (a : Dj h1 k) (b : Dj h2 k) : Dj (Jn h1 h2) k := fun x => by
  rcases a x with z | z
  · rcases b x with y | y
    · left; unfold Jn; rw [z]; exact y
    · exact .inr y
  · exact .inr z

/-- a piece of what may change: by what is kept for good, a heap of its own -/
structure Ch where
  on : Hp → Hp → Prop
  up : ∀ {P P' h : Hp}, Ex P P' → on P h → on P' h
def Sep (P : Hp) : List Ch → Hp → Prop
  | [], _ => True
  | c :: cs, h => ∃ h1 h2, c.on P h1 ∧ Sep P cs h2 ∧ Dj h1 h2 ∧ Ex h1 h ∧ Ex h2 h
theorem Sep.up {P P' : Hp} (e : Ex P P') : ∀ {cs : List Ch} {h : Hp}, Sep P cs h → Sep P' cs h
  | [], _, _ => trivial
  | c :: _, _, ⟨h1, h2, a, b, r⟩ => ⟨h1, h2, c.up e a, Sep.up e b, r⟩
theorem Sep.le {P : Hp} {h h' : Hp} (e : Ex h h') : ∀ {cs : List Ch}, Sep P cs h → Sep P cs h'
  | [], _ => trivial
  | c :: _, ⟨h1, h2, a, b, d, r1, r2⟩ => ⟨h1, h2, a, b, d, r1.trans e, r2.trans e⟩
def pt (a : Addr) (o : HO) : Ch := ⟨fun _ h => h a = some o, fun _ e => e⟩
/-- some content with a property -/
def ptx (a : Addr) (p : HO → Prop) : Ch := ⟨fun _ h => ∃ o, h a = some o ∧ p o, fun _ e => e⟩
/-- a piece that is made of others -/
def sep (cs : List Ch) : Ch := ⟨fun P h => Sep P cs h, fun e s => Sep.up e s⟩
def exc {α : Type} (f : α → Ch) : Ch := ⟨fun P h => ∃ x, (f x).on P h, fun e ⟨x, s⟩ => ⟨x, (f x).up e s⟩⟩
/-- a fact about what is kept -/
def fct (φ : Hp → Prop) (m : ∀ P P', Ex P P' → φ P → φ P') : Ch := ⟨fun P _ => φ P, fun e s => m _ _ e s⟩
def pur (φ : Prop) : Ch := ⟨fun _ _ => φ, fun _ s => s⟩

inductive Sel : List Ch → Ch → List Ch → Prop
  | z {c : Ch} {cs : List Ch} : Sel (c :: cs) c cs
  | s {c d : Ch} {cs r : List Ch} : Sel cs c r → Sel (d :: cs) c (d :: r)
theorem Sep.sel {P : Hp} {c : Ch} : ∀ {cs r : List Ch} {h : Hp}, Sel cs c r → Sep P cs h → Sep P (c :: r) h
  | _, _, _, .z, s => s
  | _, _, h, .s q, ⟨h1, h2, a, b, d, e1, e2⟩ => by
    obtain ⟨k1, k2, a', b', d', f1, f2⟩ := Sep.sel q b
    have d1 : Dj h1 k1 := d.sub (Ex.refl _) f1
    have d2 : Dj h1 k2 := d.sub (Ex.refl _) f2
    exact ⟨k1, Jn h1 k2, a', ⟨h1, k2, a, b', d2, Jn.l, Jn.r d2⟩, (Jn.dj d1 d'.symm).symm, f1.trans e2, Jn.le e1 (f2.trans e2)⟩
inductive Per : List Ch → List Ch → Prop
  | nil {cs : List Ch} : Per cs []
  | cons {c : Ch} {cs r qs : List Ch} : Sel cs c r → Per r qs → Per cs (c :: qs)
theorem Sep.per {P : Hp} : ∀ {cs qs : List Ch} {h : Hp}, Per cs qs → Sep P cs h → Sep P qs h
  | _, _, _, .nil, _ => trivial
  | _, _, _, .cons q t, s => by
    obtain ⟨h1, h2, a, b, r⟩ := Sep.sel q s
    exact ⟨h1, h2, a, Sep.per t b, r⟩

/-- P is kept for good, the pieces cs stand apart from it and from one another -/
def Mem (P : Hp) (cs : List Ch) (H : Hp) : Prop := Ex P H ∧ ∃ h, Sep P cs h ∧ Dj P h ∧ Ex h H
theorem Mem.ex {P H : Hp} {cs : List Ch} (m : Mem P cs H) : Ex P H := m.1
theorem Mem.sel {P H : Hp} {cs r : List Ch} {c : Ch} (m : Mem P cs H) (q : Sel cs c r) : Mem P (c :: r) H := by
  obtain ⟨e, h, s, d, l⟩ := m
  exact ⟨e, h, Sep.sel q s, d, l⟩
theorem Mem.per {P H : Hp} {cs qs : List Ch} (m : Mem P cs H) (q : Per cs qs) : Mem P qs H := by
  obtain ⟨e, h, s, d, l⟩ := m
  exact ⟨e, h, Sep.per q s, d, l⟩
theorem Mem.drop {P H : Hp} {cs : List Ch} {c : Ch} (m : Mem P (c :: cs) H) : Mem P cs H := by
  obtain ⟨e, h, ⟨h1, h2, a, b, dd, e1, e2⟩, d, l⟩ := m
  exact ⟨e, h2, b, d.sub (Ex.refl _) e2, e2.trans l⟩
theorem Mem.all {H : Hp} : Mem H [] H := ⟨Ex.refl _, emp, trivial, fun _ => .inr rfl, emp_ex⟩
theorem Mem.rd0 {P H : Hp} {cs : List Ch} {a : Addr} {o : HO} (m : Mem P (pt a o :: cs) H) : H a = some o := by
  obtain ⟨e, h, ⟨h1, h2, q, b, dd, e1, e2⟩, d, l⟩ := m
  exact l _ _ (e1 _ _ q)
theorem Mem.out0 {P H : Hp} {cs : List Ch} {a : Addr} {o : HO} (m : Mem P (pt a o :: cs) H) : P a = none := by
  obtain ⟨e, h, ⟨h1, h2, q, b, dd, e1, e2⟩, d, l⟩ := m
  exact d.right (e1 _ _ q)
theorem Mem.rd {P H : Hp} {cs r : List Ch} {a : Addr} {o : HO} (m : Mem P cs H) (q : Sel cs (pt a o) r) : H a = some o := (m.sel q).rd0
theorem Mem.rdx {P H : Hp} {cs : List Ch} {a : Addr} {p : HO → Prop} (m : Mem P (ptx a p :: cs) H) : ∃ o, p o ∧ Mem P (pt a o :: cs) H := by
  obtain ⟨e, h, ⟨h1, h2, ⟨o, q, po⟩, b, dd, e1, e2⟩, d, l⟩ := m
  exact ⟨o, po, e, h, ⟨h1, h2, q, b, dd, e1, e2⟩, d, l⟩
theorem Mem.tox {P H : Hp} {cs : List Ch} {a : Addr} {o : HO} {p : HO → Prop} (m : Mem P (pt a o :: cs) H) (h : p o) : Mem P (ptx a p :: cs) H := by
  obtain ⟨e, k, ⟨h1, h2, q, b, dd, e1, e2⟩, d, l⟩ := m
  exact ⟨e, k, ⟨h1, h2, ⟨o, q, h⟩, b, dd, e1, e2⟩, d, l⟩
theorem upd_of {H : Hp} {a b : Addr} {o u : HO} (h : upd H a o b = some u) : (b = a ∧ u = o) ∨ (b ≠ a ∧ H b = some u) := by
  by_cases e : b = a
  · subst e; rw [upd_same] at h; exact .inl ⟨rfl, (Option.some.inj h).symm⟩
  · rw [upd_ne e] at h; exact .inr ⟨e, h⟩
theorem Mem.put0 {P H : Hp} {cs : List Ch} {a : Addr} {o o' : HO} (m : Mem P (pt a o :: cs) H) : Mem P (pt a o' :: cs) (upd H a o') := by
  have po := m.out0
  obtain ⟨e, h, ⟨h1, h2, q, b, dd, e1, e2⟩, d, l⟩ := m
  have q' : h1 a = some o := q
  have n2 : h2 a = none := dd.left q'
  refine ⟨e.mut po, upd h a o', ⟨upd h1 a o', h2, upd_same, b, fun x => ?_, fun x u z => ?_, e2.mut n2⟩, fun x => ?_, fun x u z => ?_⟩
  · by_cases z : x = a
    · subst z; exact .inr n2
    · rw [upd_ne z]; exact dd x
  · rcases upd_of z with ⟨rfl, rfl⟩ | ⟨z1, z2⟩
    · exact upd_same
    · rw [upd_ne z1]; exact e1 _ _ z2
  · by_cases z : x = a
    · subst z; exact .inl po
    · rw [upd_ne z]; exact d x
  · rcases upd_of z with ⟨rfl, rfl⟩ | ⟨z1, z2⟩
    · exact upd_same
    · rw [upd_ne z1]; exact l _ _ z2
/-- the piece at a changed within the list of pieces -/
inductive Upd : List Ch → Addr → HO → HO → List Ch → Prop
  | z {a : Addr} {o o' : HO} {cs : List Ch} : Upd (pt a o :: cs) a o o' (pt a o' :: cs)
  | s {a : Addr} {o o' : HO} {c : Ch} {cs r : List Ch} : Upd cs a o o' r → Upd (c :: cs) a o o' (c :: r)
theorem Upd.sel : ∀ {cs r : List Ch} {a : Addr} {o o' : HO}, Upd cs a o o' r → ∃ k, Sel cs (pt a o) k ∧ Sel r (pt a o') k
  | _, _, _, _, _, .z => ⟨_, .z, .z⟩
  | _, _, _, _, _, .s q => let ⟨_, x, y⟩ := Upd.sel q; ⟨_, .s x, .s y⟩
theorem Sep.unsel {P : Hp} {c : Ch} : ∀ {cs r : List Ch} {h : Hp}, Sel cs c r → Sep P (c :: r) h → Sep P cs h
  | _, _, _, .z, s => s
  | _, _, h, .s q, ⟨h1, h2, a, ⟨k1, k2, a', b', d', f1, f2⟩, d, e1, e2⟩ => by
    have d1 : Dj h1 k1 := d.sub (Ex.refl _) f1
    have d2 : Dj h1 k2 := d.sub (Ex.refl _) f2
    exact ⟨k1, Jn h1 k2, a', Sep.unsel q ⟨h1, k2, a, b', d2, Jn.l, Jn.r d2⟩, (Jn.dj d1 d'.symm).symm, f1.trans e2, Jn.le e1 (f2.trans e2)⟩
theorem Mem.unsel {P H : Hp} {cs r : List Ch} {c : Ch} (q : Sel cs c r) (m : Mem P (c :: r) H) : Mem P cs H := by
  obtain ⟨e, h, s, d, l⟩ := m
  exact ⟨e, h, Sep.unsel q s, d, l⟩
theorem Mem.put {P H : Hp} {cs r : List Ch} {a : Addr} {o o' : HO} (m : Mem P cs H) (q : Upd cs a o o' r) : Mem P r (upd H a o') := by
  obtain ⟨k, x, y⟩ := q.sel
  exact Mem.unsel y (m.sel x).put0
theorem Upd.rd {P H : Hp} {cs r : List Ch} {a : Addr} {o o' : HO} (m : Mem P cs H) (q : Upd cs a o o' r) : H a = some o := by
  obtain ⟨k, x, y⟩ := q.sel
  exact (m.sel x).rd0
theorem Mem.new {P H : Hp} {cs : List Ch} {p : Addr} {o : HO} (m : Mem P cs H) (n : H p = none) : Mem P (pt p o :: cs) (upd H p o) := by
  obtain ⟨e, h, s, d, l⟩ := m
  have hn : h p = none := fresh_back l n
  have pn : P p = none := fresh_back e n
  refine ⟨e.mut pn, upd h p o, ⟨sgl p o, h, if_pos rfl, s, fun x => ?_, fun x u z => ?_, (Ex.refl h).mut hn⟩, fun x => ?_, fun x u z => ?_⟩
  · by_cases z : x = p
    · subst z; exact .inr hn
    · exact .inl (if_neg z)
  · unfold sgl at z
    split at z
    · rename_i q; subst q; cases z; exact upd_same
    · cases z
  · by_cases z : x = p
    · subst z; exact .inl pn
    · rw [upd_ne z]; exact d x
  · rcases upd_of z with ⟨rfl, rfl⟩ | ⟨z1, z2⟩
    · exact upd_same
    · rw [upd_ne z1]; exact l _ _ z2
/-- kept for good from now on -/
theorem Mem.freeze {P H : Hp} {cs : List Ch} {a : Addr} {o : HO} (m : Mem P (pt a o :: cs) H) : Mem (upd P a o) cs H ∧ Ex P (upd P a o) := by
  have po := m.out0
  have ho := m.rd0
  obtain ⟨e, h, ⟨h1, h2, q, b, dd, e1, e2⟩, d, l⟩ := m
  have q' : h1 a = some o := q
  have n2 : h2 a = none := dd.left q'
  have eP : Ex P (upd P a o) := Ex.new po
  refine ⟨⟨fun x u z => ?_, h2, Sep.up eP b, fun x => ?_, e2.trans l⟩, eP⟩
  · rcases upd_of z with ⟨rfl, rfl⟩ | ⟨z1, z2⟩
    · exact ho
    · exact e _ _ z2
  · by_cases z : x = a
    · subst z; exact .inr n2
    · rw [upd_ne z]; exact (d.sub (Ex.refl _) e2) x
theorem Mem.newP {P H : Hp} {cs : List Ch} {p : Addr} {o : HO} (m : Mem P cs H) (n : H p = none) : Mem (upd P p o) cs (upd H p o) ∧ Ex P (upd P p o) := (m.new n).freeze
/-- pieces made of pieces -/
theorem Mem.open {P H : Hp} {cs ds : List Ch} (m : Mem P (sep ds :: cs) H) : Mem P (ds ++ cs) H := by
  obtain ⟨e, h, ⟨h1, h2, q, b, dd, e1, e2⟩, d, l⟩ := m
  refine ⟨e, h, ?_, d, l⟩
  have q' : Sep P ds h1 := q
  clear q
  induction ds generalizing h1 h with
  | nil => exact Sep.le e2 b
  | cons c ds ih =>
    obtain ⟨k1, k2, a', b', d', f1, f2⟩ := q'
    have dk2 : Dj k2 h2 := dd.sub f2 (Ex.refl _)
    have dk1 : Dj k1 h2 := dd.sub f1 (Ex.refl _)
    have le2 : Ex (Jn k2 h2) h := Jn.le (f2.trans e1) e2
    exact ⟨k1, Jn k2 h2, a', ih (Jn k2 h2) k2 dk2 Jn.l (Jn.r dk2) (d.sub (Ex.refl _) le2) (le2.trans l) b', (Jn.dj d'.symm dk1.symm).symm, f1.trans e1, le2⟩
theorem Mem.close {P H : Hp} {cs ds : List Ch} (m : Mem P (ds ++ cs) H) : Mem P (sep ds :: cs) H := by
  obtain ⟨e, h, s, d, l⟩ := m
  refine ⟨e, h, ?_, d, l⟩
  clear d l
  induction ds generalizing h with
  | nil => exact ⟨emp, h, trivial, s, fun _ => .inl rfl, emp_ex, Ex.refl _⟩
  | cons c ds ih =>
    obtain ⟨k1, k2, a', b', d', f1, f2⟩ := s
    obtain ⟨g1, g2, x, y, dd, i1, i2⟩ := ih k2 b'
    have d1 : Dj k1 g1 := d'.sub (Ex.refl _) i1
    have d2 : Dj k1 g2 := d'.sub (Ex.refl _) i2
    exact ⟨Jn k1 g1, g2, ⟨k1, g1, a', x, d1, Jn.l, Jn.r d1⟩, y, Jn.dj d2 dd, Jn.le f1 (i1.trans f2), i2.trans f2⟩
theorem Mem.exE {P H : Hp} {cs : List Ch} {α : Type} {f : α → Ch} (m : Mem P (exc f :: cs) H) : ∃ x, Mem P (f x :: cs) H := by
  obtain ⟨e, h, ⟨h1, h2, ⟨x, q⟩, b, r⟩, d⟩ := m
  exact ⟨x, e, h, ⟨h1, h2, q, b, r⟩, d⟩
theorem Mem.exI {P H : Hp} {cs : List Ch} {α : Type} {f : α → Ch} (x : α) (m : Mem P (f x :: cs) H) : Mem P (exc f :: cs) H := by
  obtain ⟨e, h, ⟨h1, h2, q, b, r⟩, d⟩ := m
  exact ⟨e, h, ⟨h1, h2, ⟨x, q⟩, b, r⟩, d⟩
theorem Mem.purE {P H : Hp} {cs : List Ch} {φ : Prop} (m : Mem P (pur φ :: cs) H) : φ ∧ Mem P cs H := by
  have z := m.drop
  obtain ⟨e, h, ⟨h1, h2, q, b, r⟩, d⟩ := m
  exact ⟨q, z⟩
theorem Mem.purI {P H : Hp} {cs : List Ch} {φ : Prop} (h : φ) (m : Mem P cs H) : Mem P (pur φ :: cs) H := by
  obtain ⟨e, k, s, d, l⟩ := m
  exact ⟨e, k, ⟨emp, k, h, s, fun _ => .inl rfl, emp_ex, Ex.refl _⟩, d, l⟩
theorem Mem.fctE {P H : Hp} {cs : List Ch} {φ : Hp → Prop} {mo} (m : Mem P (fct φ mo :: cs) H) : φ P ∧ Mem P cs H := by
  have z := m.drop
  obtain ⟨e, h, ⟨h1, h2, q, b, r⟩, d⟩ := m
  exact ⟨q, z⟩
theorem Mem.fctI {P H : Hp} {cs : List Ch} {φ : Hp → Prop} {mo} (h : φ P) (m : Mem P cs H) : Mem P (fct φ mo :: cs) H := by
  obtain ⟨e, k, s, d, l⟩ := m
  exact ⟨e, k, ⟨emp, k, h, s, fun _ => .inl rfl, emp_ex, Ex.refl _⟩, d, l⟩

/-! ### data that is kept -/
mutual
theorem Dp.up {K : PySem.W.Frag} {P P' : Hp} (e : Ex P P') : ∀ {v : V} {d : PyData}, Dp K P v d → Dp K P' v d
  | _, _, .non => .non
  | _, _, .bl b => .bl b
  | _, _, .int i => .int i
  | _, _, .str x => .str x
  | _, _, .lst h a => .lst (ex_l e h) (DpAll.up e a)
  | _, _, .tup h a => .tup (ex_t e h) (DpAll.up e a)
theorem DpAll.up {K : PySem.W.Frag} {P P' : Hp} (e : Ex P P') : ∀ {vs : List V} {ds : List PyData}, DpAll K P vs ds → DpAll K P' vs ds
  | _, _, .nil => .nil
  | _, _, .cons a b => .cons (Dp.up e a) (DpAll.up e b)
end
theorem Mem.sqL {K : PySem.W.Frag} {Pa P H : Hp} {cs : List Ch} {a : Addr} {xs : List V} (m : Mem P cs H) (h : SqL K Pa a xs) (e : Ex Pa P) : SqL K H a xs := ex_l (e.trans m.ex) h
theorem Mem.sqT {K : PySem.W.Frag} {Pa P H : Hp} {cs : List Ch} {a : Addr} {xs : List V} (m : Mem P cs H) (h : SqT K Pa a xs) (e : Ex Pa P) : SqT K H a xs := ex_t (e.trans m.ex) h
theorem Mem.sqLp {K : PySem.W.Frag} {P H : Hp} {cs r : List Ch} {a : Addr} {xs : List V} (m : Mem P cs H) (q : Sel cs (pt a (.lst xs)) r) : SqL K H a xs := SqL.of (m.rd q)

theorem sqL_up {K : PySem.W.Frag} {P P' : Hp} {a : Addr} {xs : List V} (h : SqL K P a xs) (e : Ex P P') : SqL K P' a xs := ex_l e h
theorem sqT_up {K : PySem.W.Frag} {P P' : Hp} {a : Addr} {xs : List V} (h : SqT K P a xs) (e : Ex P P') : SqT K P' a xs := ex_t e h
theorem dp_up {K : PySem.W.Frag} {P P' : Hp} {v : V} {d : PyData} (h : Dp K P v d) (e : Ex P P') : Dp K P' v d := Dp.up e h
/-! ### readings: a name stored, an object made -/
inductive SetS : List (Option V) → Nat → V → List (Option V) → Prop
  | z {v : V} {x : Option V} {r : List (Option V)} : SetS (x :: r) 0 v (some v :: r)
  | s {v : V} {x : Option V} {r r' : List (Option V)} {n : Nat} : SetS r n v r' → SetS (x :: r) (n + 1) v (x :: r')
theorem SetS.eq : ∀ {σ σ' : List (Option V)} {i : Nat} {v : V}, SetS σ i v σ' → σ.set i (some v) = σ'
  | _, _, _, _, .z => rfl
  | _, _, _, _, .s q => by rw [List.set_cons_succ, SetS.eq q]
theorem i_name {i : Nat} {v : V} {σ σ' : L2.St} {H : Hp} {Q : L2.St → Hp → Prop} (h : SetS σ i v σ') (q : Q σ' H) : gName i v σ H Q := by
  show Q (σ.set i (some v)) H
  rw [h.eq]; exact q
theorem i_set {i : Nat} {te : TE} {D : Ends} {σ : L2.St} {H : Hp} (h : te σ H fun v H1 => gName i v σ H1 D.nx) : tAsg te (gName i) D σ H := h
theorem i_asg {te : TE} {g : TG} {D : Ends} {σ : L2.St} {H : Hp} (h : te σ H fun v H1 => g v σ H1 D.nx) : tAsg te g D σ H := h
theorem i_seq {t u : TS} {D : Ends} {σ : L2.St} {H : Hp} (h : t { D with nx := u D } σ H) : tSeq t u D σ H := h
theorem i_next {D : Ends} {σ : L2.St} {H : Hp} (h : D.nx σ H) : tNext D σ H := h
theorem i_ret {te : TE} {D : Ends} {σ : L2.St} {H : Hp} (h : te σ H D.rt) : tRet te D σ H := h
theorem i_drop {te : TE} {D : Ends} {σ : L2.St} {H : Hp} (h : te σ H fun _ H1 => D.nx σ H1) : tDrop te D σ H := h
theorem i_var {i : Nat} {σ : L2.St} {H : Hp} {v : V} {Q : VK} (h : σ[i]? = some (some v)) (q : Q v H) : tVar i σ H Q := ⟨v, h, q⟩
theorem i_c {v : V} {σ : L2.St} {H : Hp} {Q : VK} (q : Q v H) : tC v σ H Q := q
theorem i_op {r : R2} {ta tb : TE} {σ : L2.St} {H : Hp} {Q : VK} (h : ta σ H fun x H1 => tb σ H1 fun y H2 => r x y H2 Q) : tOp r ta tb σ H Q := h
theorem i_un {r : V → Hp → VK → Prop} {ta : TE} {σ : L2.St} {H : Hp} {Q : VK} (h : ta σ H fun x H1 => r x H1 Q) : tUn r ta σ H Q := h
theorem i_rI0 {g : Int → Int → V} {i j : Int} {H : Hp} {Q : VK} (q : Q (g i j) H) : rI0 g (.int i) (.int j) H Q := ⟨i, j, rfl, rfl, q⟩
theorem i_rI {C : Int → Int → Prop} {g : Int → Int → V} {i j : Int} {H : Hp} {Q : VK} (c : C i j) (q : Q (g i j) H) : rI C g (.int i) (.int j) H Q := ⟨i, j, rfl, rfl, c, q⟩
theorem i_rU {g : Int → V} {i : Int} {H : Hp} {Q : VK} (q : Q (g i) H) : rU g (.int i) H Q := ⟨i, rfl, q⟩
theorem i_eqI {i j : Int} {H : Hp} {Q : VK} (q : Q (.bl (decide (i = j))) H) : rEq (.int i) (.int j) H Q := by
  refine ⟨rfl, ?_⟩
  rw [show decide (V.int i = V.int j) = decide (i = j) from by simp only [V.int.injEq]]
  exact q
theorem i_neI {i j : Int} {H : Hp} {Q : VK} (q : Q (.bl (!decide (i = j))) H) : rNe (.int i) (.int j) H Q := by
  refine ⟨rfl, ?_⟩
  rw [show decide (V.int i = V.int j) = decide (i = j) from by simp only [V.int.injEq]]
  exact q
theorem i_eqB {i j : Bool} {H : Hp} {Q : VK} (q : Q (.bl (decide (i = j))) H) : rEq (.bl i) (.bl j) H Q := by
  refine ⟨rfl, ?_⟩
  rw [show decide (V.bl i = V.bl j) = decide (i = j) from by simp only [V.bl.injEq]]
  exact q
theorem i_neB {i j : Bool} {H : Hp} {Q : VK} (q : Q (.bl (!decide (i = j))) H) : rNe (.bl i) (.bl j) H Q := by
  refine ⟨rfl, ?_⟩
  rw [show decide (V.bl i = V.bl j) = decide (i = j) from by simp only [V.bl.injEq]]
  exact q
theorem i_eqS {i j : Str} {H : Hp} {Q : VK} (q : Q (.bl (decide (i = j))) H) : rEq (.str i) (.str j) H Q := by
  refine ⟨rfl, ?_⟩
  rw [show decide (V.str i = V.str j) = decide (i = j) from by simp only [V.str.injEq]]
  exact q
theorem i_neS {i j : Str} {H : Hp} {Q : VK} (q : Q (.bl (!decide (i = j))) H) : rNe (.str i) (.str j) H Q := by
  refine ⟨rfl, ?_⟩
  rw [show decide (V.str i = V.str j) = decide (i = j) from by simp only [V.str.injEq]]
  exact q
theorem i_isN {v : V} {H : Hp} {Q : VK} (q : Q (.bl (decide (v = .non))) H) : rIsN v .non H Q := ⟨rfl, q⟩
theorem i_aNil {σ : L2.St} {H : Hp} {Q : List V → Hp → Prop} (q : Q [] H) : tNil σ H Q := q
theorem i_aCons {ta : TE} {tr : TA} {σ : L2.St} {H : Hp} {Q : List V → Hp → Prop} (h : ta σ H fun x H1 => tr σ H1 fun xs H2 => Q (x :: xs) H2) : tCons ta tr σ H Q := h
theorem i_cb {r : List V → Hp → VK → Prop} {t : TA} {σ : L2.St} {H : Hp} {Q : VK} (h : t σ H fun vs H1 => r vs H1 Q) : tCB r t σ H Q := h
theorem i_call {sp : Sp} {dvs : List V} {E : XK} {t : TA} {σ : L2.St} {H : Hp} {Q : VK} (h : t σ H fun vs H1 => sp (vs ++ dvs) H1 Q E) : tCall sp dvs E t σ H Q := h
theorem i_test {t : TE} {σ : L2.St} {H : Hp} {Q : Bool → Hp → Prop} (h : t σ H fun x H' => ∃ k, x = .bl k ∧ Q k H') : tTest t σ H Q := h
theorem i_tB {t : TE} {σ : L2.St} {H : Hp} {Q : Bool → Hp → Prop} (h : t σ H fun x H' => ∃ k, x = .bl k ∧ Q k H') : tB t σ H Q := h
theorem i_tb {b : Bool} {H : Hp} {Q : Bool → Hp → Prop} (h : Q b H) : ∃ k, V.bl b = .bl k ∧ Q k H := ⟨b, rfl, h⟩
/-- an object laid at a new place, what follows told of it -/
def NewO (o : HO) (H : Hp) (Q : VK) : Prop := ∀ p, H p = none → Q (.ref p) (upd H p o)
theorem i_newP {P H : Hp} {cs : List Ch} {o : HO} {Q : VK} (m : Mem P cs H) (q : ∀ p P' H', Mem P' cs H' → Ex P P' → P' p = some o → Q (.ref p) H') : NewO o H Q := fun p n => q p _ _ (m.newP n).1 (m.newP n).2 upd_same
theorem i_newT {K : PySem.W.Frag} {P H : Hp} {cs : List Ch} {xs : List V} {Q : VK} (m : Mem P cs H) (q : ∀ p P' H', Mem P' cs H' → Ex P P' → SqT K P' p xs → Q (.ref p) H') : NewO (.tup xs) H Q :=
  fun p n => q p _ _ (m.newP n).1 (m.newP n).2 (SqT.of upd_same)
theorem i_newL {K : PySem.W.Frag} {P H : Hp} {cs : List Ch} {xs : List V} {Q : VK} (m : Mem P cs H) (q : ∀ p P' H', Mem P' cs H' → Ex P P' → SqL K P' p xs → Q (.ref p) H') : NewO (.lst xs) H Q :=
  fun p n => q p _ _ (m.newP n).1 (m.newP n).2 (SqL.of upd_same)
theorem i_newM {P H : Hp} {cs : List Ch} {o : HO} {Q : VK} (m : Mem P cs H) (q : ∀ p H', Mem P (pt p o :: cs) H' → Q (.ref p) H') : NewO o H Q := fun p n => q p _ (m.new n)
def NewT (xs : List V) (H : Hp) (Q : VK) : Prop := xs.length ≤ sizeLine ∧ NewO (.tup xs) H Q
def NewL (xs : List V) (H : Hp) (Q : VK) : Prop := xs.length ≤ sizeLine ∧ NewO (.lst xs) H Q
theorem i_NT {xs : List V} {H : Hp} {Q : VK} (hl : xs.length ≤ 100000) (h : NewO (.tup xs) H Q) : NewT xs H Q := ⟨sz_of hl, h⟩
theorem i_NL {xs : List V} {H : Hp} {Q : VK} (hl : xs.length ≤ 100000) (h : NewO (.lst xs) H Q) : NewL xs H Q := ⟨sz_of hl, h⟩
theorem i_tup {ta : TA} {σ : L2.St} {H : Hp} {Q : VK} (h : ta σ H fun xs H1 => NewT xs H1 Q) : tTup ta σ H Q := h
theorem i_lst {ta : TA} {σ : L2.St} {H : Hp} {Q : VK} (h : ta σ H fun xs H1 => NewL xs H1 Q) : tLst ta σ H Q := h
theorem i_ixL {K : PySem.W.Frag} {p : Addr} {xs : List V} {i : Int} {v : V} {H : Hp} {Q : VK} (h : SqL K H p xs) (ha : atI xs i = some v) (q : Q v H) : rIxL K (.ref p) (.int i) H Q := ⟨p, xs, i, v, rfl, rfl, h, ha, q⟩
theorem i_ixT {K : PySem.W.Frag} {p : Addr} {xs : List V} {i : Int} {v : V} {H : Hp} {Q : VK} (h : SqT K H p xs) (ha : atI xs i = some v) (q : Q v H) : rIxT K (.ref p) (.int i) H Q := ⟨p, xs, i, v, rfl, rfl, h, ha, q⟩
end FS

set_option Elab.async false
set_option maxRecDepth 100000
set_option linter.all false
/-! FsGo: readings, by leaves. -/
namespace FS
open PySem L2 Evl
/-! loops -/
theorem i_for {wi : TI} {g : TG} {tb : TS} {D : Ends} {σ : L2.St} {H : Hp} (h : wi σ H fun J H1 => ∃ W : Nat → Nat → L2.St → Hp → Prop, (∃ m, W 0 m σ H1) ∧ ∀ i m σ H, W i m σ H →
  (J.stop i H ∧ D.nx σ H) ∨ (J.go i H ∧ ∃ N : L2.St → Hp → Prop, (∀ σ' H', N σ' H' → ∃ m', m' < m ∧ W (i + 1) m' σ' H') ∧ ∀ x H', J.yld i H x H' → g x σ H' fun σ2 H2 => tb { D with nx := N, ct := N, bk := D.nx } σ2 H2)) : tFor wi g tb D σ H := h
theorem i_iList {K : PySem.W.Frag} {tl : TE} {σ : L2.St} {H : Hp} {R : It → Hp → Prop} (h : tl σ H fun x H1 => ∃ a, x = .ref a ∧ (∃ xs, SqL K H1 a xs) ∧ R (Itl K a) H1) : iList K tl σ H R := h
theorem i_iTup {K : PySem.W.Frag} {tl : TE} {σ : L2.St} {H : Hp} {R : It → Hp → Prop} (h : tl σ H fun x H1 => ∃ a, x = .ref a ∧ (∃ xs, SqT K H1 a xs) ∧ R (Itt K a) H1) : iTup K tl σ H R := h
theorem i_iEnum {K : PySem.W.Frag} {ta : TA} {σ : L2.St} {H : Hp} {R : It → Hp → Prop} (h : ta σ H fun vs H1 => ∃ a xs, vs = [.ref a] ∧ SqL K H1 a xs ∧ R (Ite K a) H1) : iEnum K ta σ H R := h
theorem i_iRng1 {ta : TA} {σ : L2.St} {H : Hp} {R : It → Hp → Prop} (h : ta σ H fun vs H1 => ∃ j : Int, vs = [.int j] ∧ -(2 ^ 62) ≤ j ∧ j < 2 ^ 62 ∧ R (Itr 0 j.toNat) H1) : iRng1 ta σ H R := h
theorem i_iRng2 {ta : TA} {σ : L2.St} {H : Hp} {R : It → Hp → Prop} (h : ta σ H fun vs H1 => ∃ i j : Int, vs = [.int i, .int j] ∧ (-(2 ^ 62) ≤ i ∧ i < 2 ^ 62 ∧ -(2 ^ 62) ≤ j ∧ j < 2 ^ 62) ∧ R (Itr i (j - i).toNat) H1) : iRng2 ta σ H R := h
theorem l_list {K : PySem.W.Frag} {a : Addr} {xs : List V} {g : TG} {tb : TS} {D : Ends} {σ : L2.St} {H : Hp} (hq : SqL K H a xs) (Pv : Nat → L2.St → Hp → Prop) (h0 : Pv 0 σ H) (hl : ∀ i σ H, i ≤ xs.length → Pv i σ H → SqL K H a xs)
    (hs : ∀ i x σ H, xs[i]? = some x → Pv i σ H → g x σ H fun σ2 H2 => tb { D with nx := Pv (i + 1), ct := Pv (i + 1), bk := D.nx } σ2 H2) (hd : ∀ σ H, Pv xs.length σ H → D.nx σ H) :
    ∃ b, V.ref a = .ref b ∧ (∃ xs, SqL K H b xs) ∧ ∃ W : Nat → Nat → L2.St → Hp → Prop, (∃ m, W 0 m σ H) ∧ ∀ i m σ H, W i m σ H →
      ((Itl K b).stop i H ∧ D.nx σ H) ∨ ((Itl K b).go i H ∧ ∃ N : L2.St → Hp → Prop, (∀ σ' H', N σ' H' → ∃ m', m' < m ∧ W (i + 1) m' σ' H') ∧ ∀ x H', (Itl K b).yld i H x H' → g x σ H' fun σ2 H2 => tb { D with nx := N, ct := N, bk := D.nx } σ2 H2) :=
  ⟨a, rfl, ⟨_, hq⟩, for_list Pv h0 hl hs hd⟩
theorem l_tup {K : PySem.W.Frag} {a : Addr} {xs : List V} {g : TG} {tb : TS} {D : Ends} {σ : L2.St} {H : Hp} (hq : SqT K H a xs) (Pv : Nat → L2.St → Hp → Prop) (h0 : Pv 0 σ H) (hl : ∀ i σ H, i ≤ xs.length → Pv i σ H → SqT K H a xs)
    (hs : ∀ i x σ H, xs[i]? = some x → Pv i σ H → g x σ H fun σ2 H2 => tb { D with nx := Pv (i + 1), ct := Pv (i + 1), bk := D.nx } σ2 H2) (hd : ∀ σ H, Pv xs.length σ H → D.nx σ H) :
    ∃ b, V.ref a = .ref b ∧ (∃ xs, SqT K H b xs) ∧ ∃ W : Nat → Nat → L2.St → Hp → Prop, (∃ m, W 0 m σ H) ∧ ∀ i m σ H, W i m σ H →
      ((Itt K b).stop i H ∧ D.nx σ H) ∨ ((Itt K b).go i H ∧ ∃ N : L2.St → Hp → Prop, (∀ σ' H', N σ' H' → ∃ m', m' < m ∧ W (i + 1) m' σ' H') ∧ ∀ x H', (Itt K b).yld i H x H' → g x σ H' fun σ2 H2 => tb { D with nx := N, ct := N, bk := D.nx } σ2 H2) :=
  ⟨a, rfl, ⟨_, hq⟩, for_tup Pv h0 hl hs hd⟩
theorem l_enum {K : PySem.W.Frag} {a : Addr} {xs : List V} {g : TG} {tb : TS} {D : Ends} {σ : L2.St} {H : Hp} (hq : SqL K H a xs) (Pv : Nat → L2.St → Hp → Prop) (h0 : Pv 0 σ H) (hl : ∀ i σ H, i ≤ xs.length → Pv i σ H → SqL K H a xs)
    (hs : ∀ i x σ H T, xs[i]? = some x → Pv i σ H → H T = none → g (.ref T) σ (upd H T (.tup [.int (i : Int), x])) fun σ2 H2 => tb { D with nx := Pv (i + 1), ct := Pv (i + 1), bk := D.nx } σ2 H2) (hd : ∀ σ H, Pv xs.length σ H → D.nx σ H) :
    ∃ b ys, [V.ref a] = [.ref b] ∧ SqL K H b ys ∧ ∃ W : Nat → Nat → L2.St → Hp → Prop, (∃ m, W 0 m σ H) ∧ ∀ i m σ H, W i m σ H →
      ((Ite K b).stop i H ∧ D.nx σ H) ∨ ((Ite K b).go i H ∧ ∃ N : L2.St → Hp → Prop, (∀ σ' H', N σ' H' → ∃ m', m' < m ∧ W (i + 1) m' σ' H') ∧ ∀ x H', (Ite K b).yld i H x H' → g x σ H' fun σ2 H2 => tb { D with nx := N, ct := N, bk := D.nx } σ2 H2) := by
  refine ⟨a, xs, rfl, hq, fun i m σ H => m = xs.length - i ∧ i ≤ xs.length ∧ Pv i σ H, ⟨xs.length, by simp, Nat.zero_le _, h0⟩, ?_⟩
  rintro i m σ H ⟨rfl, hi, p⟩
  have q := hl i σ H hi p
  by_cases hlt : i < xs.length
  · refine .inr ⟨⟨xs, xs[i], q, by simp [hlt]⟩, Pv (i + 1), fun σ' H' p' => ⟨xs.length - (i + 1), by omega, rfl, hlt, p'⟩, fun x H' y => ?_⟩
    obtain ⟨T, x', rfl, hT, rfl, e⟩ := y
    exact hs i x' σ H T (e xs q) p hT
  · have e : i = xs.length := by omega
    subst e
    exact .inl ⟨⟨xs, q, Nat.le_refl _⟩, hd σ H p⟩
theorem l_range1 {j : Int} {g : TG} {tb : TS} {D : Ends} {σ : L2.St} {H : Hp} (h1 : -(2 ^ 62) ≤ j) (h2 : j < 2 ^ 62) (Pv : Nat → L2.St → Hp → Prop) (h0 : Pv 0 σ H)
    (hs : ∀ (i : Nat) σ H, (i : Int) < j → Pv i σ H → g (.int (i : Int)) σ H fun σ2 H2 => tb { D with nx := Pv (i + 1), ct := Pv (i + 1), bk := D.nx } σ2 H2) (hd : ∀ σ H, Pv j.toNat σ H → D.nx σ H) :
    ∃ k : Int, [V.int j] = [.int k] ∧ -(2 ^ 62) ≤ k ∧ k < 2 ^ 62 ∧ ∃ W : Nat → Nat → L2.St → Hp → Prop, (∃ m, W 0 m σ H) ∧ ∀ i m σ H, W i m σ H →
      ((Itr 0 k.toNat).stop i H ∧ D.nx σ H) ∨ ((Itr 0 k.toNat).go i H ∧ ∃ N : L2.St → Hp → Prop, (∀ σ' H', N σ' H' → ∃ m', m' < m ∧ W (i + 1) m' σ' H') ∧ ∀ x H', (Itr 0 k.toNat).yld i H x H' → g x σ H' fun σ2 H2 => tb { D with nx := N, ct := N, bk := D.nx } σ2 H2) :=
  ⟨j, rfl, h1, h2, for_range (lo := 0) (n := j.toNat) Pv h0 (fun i σ H hi p => by rw [Int.zero_add]; exact hs i σ H (by omega) p) hd⟩

/-- a comprehension over a list: what is kept grows, the new list at D -/
theorem l_lc {K : PySem.W.Frag} {P : Hp} {cs : List Ch} {a : Addr} {xs : List V} {g : TG} {tt : TT} {te : TE} {vs : List Nat} {σ : L2.St} {H : Hp} {Qd : Addr → Hp → Prop} (m : Mem P cs H) (hl : ∀ P' H' c, Ex P P' → Mem P' (c :: cs) H' → SqL K H' a xs) (R : Nat → List V → Hp → Prop) (h0 : R 0 [] P)
    (hs : ∀ i x P' H' acc D, xs[i]? = some x → Ex P P' → Mem P' (pt D (.lst acc) :: cs) H' → R i acc P' → ∀ (Kt : VK) (Kf : Hp → Prop),
      (∀ y P4 H4, Ex P' P4 → Mem P4 (pt D (.lst acc) :: cs) H4 → acc.length < 100000 → R (i + 1) (acc ++ [y]) P4 → Kt y H4) → (∀ P4 H4, Ex P' P4 → Mem P4 (pt D (.lst acc) :: cs) H4 → R (i + 1) acc P4 → Kf H4) →
      g x (wipe σ vs) H' fun σ2 H2 => wipe σ2 vs = wipe σ vs ∧ tt σ2 H2 fun b H3 => if b = true then te σ2 H3 Kt else Kf H3)
    (hd : ∀ D P' H' acc, Ex P P' → Mem P' (pt D (.lst acc) :: cs) H' → R xs.length acc P' → Qd D H') :
    ∃ b, V.ref a = .ref b ∧ (∃ xs, SqL K H b xs) ∧ ∀ D, H D = none → ∃ W : Nat → Nat → Hp → Prop, (∃ m, W 0 m (upd H D (.lst []))) ∧ ∀ i m H, W i m H →
      ((Itl K b).stop i H ∧ Qd D H) ∨ ((Itl K b).go i H ∧ ∃ Nx : Hp → Prop, (∀ H', Nx H' → ∃ m', m' < m ∧ W (i + 1) m' H') ∧ ∀ x H', (Itl K b).yld i H x H' → g x (wipe σ vs) H' fun σ2 H2 => wipe σ2 vs = wipe σ vs ∧ tt σ2 H2 fun b H3 =>
        if b = true then te σ2 H3 fun y H4 => ∃ acc, H4 D = some (.lst acc) ∧ acc.length < sizeLine ∧ Nx (upd H4 D (.lst (acc ++ [y]))) else Nx H3) := by
  have hq : SqL K H a xs := by
    have z := hl P H (pur True) (Ex.refl _) (Mem.purI trivial m)
    exact z
  refine ⟨a, rfl, ⟨xs, hq⟩, fun D hD => ?_⟩
  refine lc_list (K := K) (a := a) (xs := xs) (Qd := Qd D) (fun i H' => ∃ P' acc, Ex P P' ∧ Mem P' (pt D (.lst acc) :: cs) H' ∧ R i acc P') ⟨P, [], Ex.refl _, m.new hD, h0⟩ (fun i H' _ ⟨P', acc, e, m', _⟩ => hl P' H' _ e m') (fun i x H' hx ⟨P', acc, e, m', r⟩ => ?_) (fun H' ⟨P', acc, e, m', r⟩ => hd D P' H' acc e m' r)
  exact hs i x P' H' acc D hx e m' r _ _ (fun y P4 H4 e4 m4 l4 r4 => ⟨acc, m4.rd0, sz_lt l4, P4, _, e.trans e4, m4.put0, r4⟩) (fun P4 H4 e4 m4 r4 => ⟨P4, acc, e.trans e4, m4, r4⟩)
theorem l_lcT {K : PySem.W.Frag} {P : Hp} {cs : List Ch} {a : Addr} {xs : List V} {g : TG} {tt : TT} {te : TE} {vs : List Nat} {σ : L2.St} {H : Hp} {Qd : Addr → Hp → Prop} (m : Mem P cs H) (hq : SqT K P a xs) (R : Nat → List V → Hp → Prop) (h0 : R 0 [] P)
    (hs : ∀ i x P' H' acc D, xs[i]? = some x → Ex P P' → Mem P' (pt D (.lst acc) :: cs) H' → R i acc P' → ∀ (Kt : VK) (Kf : Hp → Prop),
      (∀ y P4 H4, Ex P' P4 → Mem P4 (pt D (.lst acc) :: cs) H4 → acc.length < 100000 → R (i + 1) (acc ++ [y]) P4 → Kt y H4) → (∀ P4 H4, Ex P' P4 → Mem P4 (pt D (.lst acc) :: cs) H4 → R (i + 1) acc P4 → Kf H4) →
      g x (wipe σ vs) H' fun σ2 H2 => wipe σ2 vs = wipe σ vs ∧ tt σ2 H2 fun b H3 => if b = true then te σ2 H3 Kt else Kf H3)
    (hd : ∀ D P' H' acc, Ex P P' → Mem P' (pt D (.lst acc) :: cs) H' → R xs.length acc P' → Qd D H') :
    ∃ b, V.ref a = .ref b ∧ (∃ xs, SqT K H b xs) ∧ ∀ D, H D = none → ∃ W : Nat → Nat → Hp → Prop, (∃ m, W 0 m (upd H D (.lst []))) ∧ ∀ i m H, W i m H →
      ((Itt K b).stop i H ∧ Qd D H) ∨ ((Itt K b).go i H ∧ ∃ Nx : Hp → Prop, (∀ H', Nx H' → ∃ m', m' < m ∧ W (i + 1) m' H') ∧ ∀ x H', (Itt K b).yld i H x H' → g x (wipe σ vs) H' fun σ2 H2 => wipe σ2 vs = wipe σ vs ∧ tt σ2 H2 fun b H3 =>
        if b = true then te σ2 H3 fun y H4 => ∃ acc, H4 D = some (.lst acc) ∧ acc.length < sizeLine ∧ Nx (upd H4 D (.lst (acc ++ [y]))) else Nx H3) := by
  refine ⟨a, rfl, ⟨xs, ex_t m.ex hq⟩, fun D hD => ?_⟩
  refine lc_tup (K := K) (a := a) (xs := xs) (Qd := Qd D) (fun i H' => ∃ P' acc, Ex P P' ∧ Mem P' (pt D (.lst acc) :: cs) H' ∧ R i acc P') ⟨P, [], Ex.refl _, m.new hD, h0⟩ (fun i H' _ ⟨P', acc, e, m', _⟩ => ex_t (e.trans m'.ex) hq) (fun i x H' hx ⟨P', acc, e, m', r⟩ => ?_) (fun H' ⟨P', acc, e, m', r⟩ => hd D P' H' acc e m' r)
  exact hs i x P' H' acc D hx e m' r _ _ (fun y P4 H4 e4 m4 l4 r4 => ⟨acc, m4.rd0, sz_lt l4, P4, _, e.trans e4, m4.put0, r4⟩) (fun P4 H4 e4 m4 r4 => ⟨P4, acc, e.trans e4, m4, r4⟩)
theorem l_lcR {P : Hp} {cs : List Ch} {j : Int} {g : TG} {tt : TT} {te : TE} {vs : List Nat} {σ : L2.St} {H : Hp} {Qd : Addr → Hp → Prop} (h1 : -(2 ^ 62) ≤ j) (h2 : j < 2 ^ 62) (m : Mem P cs H) (R : Nat → List V → Hp → Prop) (h0 : R 0 [] P)
    (hs : ∀ (i : Nat) P' H' acc D, (i : Int) < j → Ex P P' → Mem P' (pt D (.lst acc) :: cs) H' → R i acc P' → ∀ (Kt : VK) (Kf : Hp → Prop),
      (∀ y P4 H4, Ex P' P4 → Mem P4 (pt D (.lst acc) :: cs) H4 → acc.length < 100000 → R (i + 1) (acc ++ [y]) P4 → Kt y H4) → (∀ P4 H4, Ex P' P4 → Mem P4 (pt D (.lst acc) :: cs) H4 → R (i + 1) acc P4 → Kf H4) →
      g (.int (i : Int)) (wipe σ vs) H' fun σ2 H2 => wipe σ2 vs = wipe σ vs ∧ tt σ2 H2 fun b H3 => if b = true then te σ2 H3 Kt else Kf H3)
    (hd : ∀ D P' H' acc, Ex P P' → Mem P' (pt D (.lst acc) :: cs) H' → R j.toNat acc P' → Qd D H') :
    ∃ k : Int, [V.int j] = [.int k] ∧ -(2 ^ 62) ≤ k ∧ k < 2 ^ 62 ∧ ∀ D, H D = none → ∃ W : Nat → Nat → Hp → Prop, (∃ m, W 0 m (upd H D (.lst []))) ∧ ∀ i m H, W i m H →
      ((Itr 0 k.toNat).stop i H ∧ Qd D H) ∨ ((Itr 0 k.toNat).go i H ∧ ∃ Nx : Hp → Prop, (∀ H', Nx H' → ∃ m', m' < m ∧ W (i + 1) m' H') ∧ ∀ x H', (Itr 0 k.toNat).yld i H x H' → g x (wipe σ vs) H' fun σ2 H2 => wipe σ2 vs = wipe σ vs ∧ tt σ2 H2 fun b H3 =>
        if b = true then te σ2 H3 fun y H4 => ∃ acc, H4 D = some (.lst acc) ∧ acc.length < sizeLine ∧ Nx (upd H4 D (.lst (acc ++ [y]))) else Nx H3) := by
  refine ⟨j, rfl, h1, h2, fun D hD => ?_⟩
  refine lc_range (lo := 0) (n := j.toNat) (Qd := Qd D) (fun i H' => ∃ P' acc, Ex P P' ∧ Mem P' (pt D (.lst acc) :: cs) H' ∧ R i acc P') ⟨P, [], Ex.refl _, m.new hD, h0⟩ (fun i H' hi ⟨P', acc, e, m', r⟩ => ?_) (fun H' ⟨P', acc, e, m', r⟩ => hd D P' H' acc e m' r)
  rw [Int.zero_add]
  exact hs i P' H' acc D (by omega) e m' r _ _ (fun y P4 H4 e4 m4 l4 r4 => ⟨acc, m4.rd0, sz_lt l4, P4, _, e.trans e4, m4.put0, r4⟩) (fun P4 H4 e4 m4 r4 => ⟨P4, acc, e.trans e4, m4, r4⟩)
theorem i_lc {wi : TI} {g : TG} {tt : TT} {te : TE} {vs : List Nat} {σ : L2.St} {H : Hp} {Q : VK} (h : wi σ H fun J H1 => ∀ D, H1 D = none → ∃ W : Nat → Nat → Hp → Prop, (∃ m, W 0 m (upd H1 D (.lst []))) ∧ ∀ i m H, W i m H →
      (J.stop i H ∧ Q (.ref D) H) ∨ (J.go i H ∧ ∃ Nx : Hp → Prop, (∀ H', Nx H' → ∃ m', m' < m ∧ W (i + 1) m' H') ∧ ∀ x H', J.yld i H x H' → g x (wipe σ vs) H' fun σ2 H2 => wipe σ2 vs = wipe σ vs ∧ tt σ2 H2 fun b H3 =>
        if b = true then te σ2 H3 fun y H4 => ∃ acc, H4 D = some (.lst acc) ∧ acc.length < sizeLine ∧ Nx (upd H4 D (.lst (acc ++ [y]))) else Nx H3)) : tLc wi g tt te vs σ H Q := h
theorem i_yes {σ : L2.St} {H : Hp} {Q : Bool → Hp → Prop} (h : Q true H) : tYes σ H Q := h
/-! tests -/
theorem i_ifS {c : TT} {t u : TS} {D : Ends} {σ : L2.St} {H : Hp} (h : c σ H fun b H1 => if b = true then t D σ H1 else u D σ H1) : tIfS c t u D σ H := h
theorem i_if {t : TT} {ta tb : TE} {σ : L2.St} {H : Hp} {Q : VK} (h : t σ H fun c H1 => if c = true then ta σ H1 Q else tb σ H1 Q) : tIf t ta tb σ H Q := h
theorem i_and {t u : TT} {σ : L2.St} {H : Hp} {Q : Bool → Hp → Prop} (h : t σ H fun c H1 => if c = true then u σ H1 Q else Q false H1) : tAnd t u σ H Q := h
theorem i_or {t u : TT} {σ : L2.St} {H : Hp} {Q : Bool → Hp → Prop} (h : t σ H fun c H1 => if c = true then Q true H1 else u σ H1 Q) : tOr t u σ H Q := h
theorem i_not {t : TT} {σ : L2.St} {H : Hp} {Q : Bool → Hp → Prop} (h : t σ H fun c H1 => Q (!c) H1) : tNot t σ H Q := h
theorem i_andV {ta tb : TE} {σ : L2.St} {H : Hp} {Q : VK} (h : ta σ H fun x H1 => ∃ c, x = .bl c ∧ if c = true then tb σ H1 Q else Q (.bl false) H1) : tAndV ta tb σ H Q := h
theorem i_orV {ta tb : TE} {σ : L2.St} {H : Hp} {Q : VK} (h : ta σ H fun x H1 => ∃ c, x = .bl c ∧ if c = true then Q (.bl true) H1 else tb σ H1 Q) : tOrV ta tb σ H Q := h
theorem i_notV {ta : TE} {σ : L2.St} {H : Hp} {Q : VK} (h : ta σ H fun x H1 => ∃ c, x = .bl c ∧ Q (.bl (!c)) H1) : tNotV ta σ H Q := h
theorem i_chain {r r' : R2} {ta tb tc : TE} {σ : L2.St} {H : Hp} {Q : VK} (h : ta σ H fun x H1 => tb σ H1 fun y H2 => r x y H2 fun z H3 => ∃ k, z = .bl k ∧ if k = true then tc σ H3 fun w H4 => r' y w H4 Q else Q (.bl false) H3) : tChain r r' ta tb tc σ H Q := h
theorem i_iteNT {A B : Prop} (h : B) : if (!true) = true then A else B := h
theorem i_iteNF {A B : Prop} (h : A) : if (!false) = true then A else B := h
theorem i_ite {b : Bool} {A B : Prop} (h1 : b = true → A) (h2 : b = false → B) : if b = true then A else B := by
  cases b with
  | true => exact iteT (h1 rfl)
  | false => exact iteF (h2 rfl)
theorem i_dec {p : Prop} {_ : Decidable p} {A B : Prop} (h1 : p → A) (h2 : ¬ p → B) : if decide p = true then A else B := by
  by_cases h : p
  · rw [decide_eq_true h]; exact iteT (h1 h)
  · rw [decide_eq_false h]; exact iteF (h2 h)
theorem i_ndec {p : Prop} {_ : Decidable p} {A B : Prop} (h1 : ¬ p → A) (h2 : p → B) : if (!decide p) = true then A else B := by
  by_cases h : p
  · rw [decide_eq_true h]; exact iteF (h2 h)
  · rw [decide_eq_false h]; exact iteT (h1 h)
/-! small powers of ten -/
theorem i_pow {i j : Int} {r : Int} {H : Hp} {Q : VK} (c : CPow i j) (e : i ^ j.toNat = r) (q : Q (.int r) H) : rI CPow (fun i j => V.int (i ^ j.toNat)) (.int i) (.int j) H Q := ⟨i, j, rfl, rfl, c, by show Q (.int (i ^ j.toNat)) H; rw [e]; exact q⟩
theorem i_p12 {H : Hp} {Q : VK} (q : Q (.int 1000000000000) H) : rI CPow (fun i j => V.int (i ^ j.toNat)) (.int 10) (.int 12) H Q := i_pow ⟨by decide, by decide, by decide⟩ (by decide) q
theorem i_p18 {H : Hp} {Q : VK} (q : Q (.int 1000000000000000000) H) : rI CPow (fun i j => V.int (i ^ j.toNat)) (.int 10) (.int 18) H Q := i_pow ⟨by decide, by decide, by decide⟩ (by decide) q
theorem i_p11 {H : Hp} {Q : VK} (q : Q (.int 100000000000) H) : rI CPow (fun i j => V.int (i ^ j.toNat)) (.int 10) (.int 11) H Q := i_pow ⟨by decide, by decide, by decide⟩ (by decide) q
theorem i_p9 {H : Hp} {Q : VK} (q : Q (.int 1000000000) H) : rI CPow (fun i j => V.int (i ^ j.toNat)) (.int 10) (.int 9) H Q := i_pow ⟨by decide, by decide, by decide⟩ (by decide) q
theorem i_p6 {H : Hp} {Q : VK} (q : Q (.int 1000000) H) : rI CPow (fun i j => V.int (i ^ j.toNat)) (.int 10) (.int 6) H Q := i_pow ⟨by decide, by decide, by decide⟩ (by decide) q
/-! calls of built-ins -/
theorem i_slice {r : V → Option Int → Option Int → Hp → VK → Prop} {te : TE} {tl th : TO} {σ : L2.St} {H : Hp} {Q : VK} (h : te σ H fun x H1 => tl σ H1 fun l H2 => th σ H2 fun u H3 => r x l u H3 Q) : tSl r te tl th σ H Q := h
theorem i_someI {i : Int} {R : Int → Prop} (h : R i) : ∃ j, V.int i = .int j ∧ R j := ⟨i, rfl, h⟩
theorem i_blI {b : Bool} {R : Bool → Prop} (h : R b) : ∃ k, V.bl b = .bl k ∧ R k := ⟨b, rfl, h⟩
theorem i_noPart {σ : L2.St} {H : Hp} {Q : Option Int → Hp → Prop} (h : Q none H) : tNoPart σ H Q := h
theorem i_part {t : TE} {σ : L2.St} {H : Hp} {Q : Option Int → Hp → Prop} (h : t σ H fun x H1 => ∃ i, x = .int i ∧ Q (some i) H1) : tPart t σ H Q := h
theorem i_slL {K : PySem.W.Frag} {H : Hp} {a : Addr} {xs : List V} {lo hi : Option Int} {Q : VK} (h : SqL K H a xs) (q : NewO (.lst (cutV xs lo hi)) H Q) : rSlL K (.ref a) lo hi H Q := ⟨a, xs, rfl, h, q⟩
theorem i_cat {P H : Hp} {cs r r2 : List Ch} {a b : Addr} {xs ys : List V} {Q : VK} (m : Mem P cs H) (h1 : Sel cs (pt a (.lst xs)) r) (h2 : Sel cs (pt b (.lst ys)) r2) (hz : xs.length + ys.length ≤ 100000)
    (q : NewO (.lst (xs ++ ys)) H Q) : rCat (.ref a) (.ref b) H Q := ⟨a, b, xs, ys, rfl, rfl, m.rd h1, m.rd h2, sz_of hz, q⟩
inductive SetV : List V → Nat → V → List V → Prop
  | z {v x : V} {r : List V} : SetV (x :: r) 0 v (v :: r)
  | s {v x : V} {r r' : List V} {n : Nat} : SetV r n v r' → SetV (x :: r) (n + 1) v (x :: r')
theorem SetV.eq : ∀ {xs ys : List V} {i : Nat} {v : V}, SetV xs i v ys → xs.set i v = ys
  | _, _, _, _, .z => rfl
  | _, _, _, _, .s q => by rw [List.set_cons_succ, SetV.eq q]
theorem SetV.lt : ∀ {xs ys : List V} {i : Nat} {v : V}, SetV xs i v ys → i < xs.length
  | _, _, _, _, .z => Nat.succ_pos _
  | _, _, _, _, .s q => Nat.succ_lt_succ (SetV.lt q)
theorem ixN_of {n k : Nat} (h : k < n) : ixN n (@OfNat.ofNat Int k instOfNat) = some k := by
  have e : (@OfNat.ofNat Int k instOfNat) = (k : Int) := rfl
  rw [e]
  unfold ixN
  rw [if_pos (by omega), if_pos (by omega)]
  rfl
theorem i_setL {P H : Hp} {cs r r0 : List Ch} {a : Addr} {xs ys : List V} {j : Nat} {v : V} {Q : Hp → Prop} (m : Mem P cs H) (h0 : Sel cs (pt a (.lst xs)) r0) (e : SetV xs j v ys) (h : Upd cs a (.lst xs) (.lst ys) r) (q : ∀ H', Mem P r H' → Q H') : rSetL (.ref a) (.int (@OfNat.ofNat Int j instOfNat)) v H Q :=
  ⟨a, xs, _, j, rfl, rfl, m.rd h0, ixN_of e.lt, q _ (by rw [e.eq]; exact m.put h)⟩
theorem i_gSub {to ti : TE} {t : TSet} {v : V} {σ : L2.St} {H : Hp} {Q : L2.St → Hp → Prop} (h : to σ H fun o H1 => ti σ H1 fun i H2 => t o i v H2 fun H3 => Q σ H3) : gSub to ti t v σ H Q := h
theorem i_gTup {K : PySem.W.Frag} {n : Nat} {t : TGs} {a : Addr} {xs : List V} {σ : L2.St} {H : Hp} {Q : L2.St → Hp → Prop} (h : SqT K H a xs) (hl : xs.length = n) (q : t xs σ H Q) : gTup K n t (.ref a) σ H Q := ⟨a, xs, rfl, h, hl, q⟩
theorem i_gCons {t : TG} {u : TGs} {v : V} {r : List V} {σ : L2.St} {H : Hp} {Q : L2.St → Hp → Prop} (q : t v σ H fun σ' H' => u r σ' H' Q) : gCons t u (v :: r) σ H Q := ⟨v, r, rfl, q⟩
theorem i_gNil {σ : L2.St} {H : Hp} {Q : L2.St → Hp → Prop} (q : Q σ H) : gNil [] σ H Q := ⟨rfl, q⟩
theorem Mem.enum {K : PySem.W.Frag} {P H : Hp} {cs : List Ch} {T : Addr} {xs : List V} (m : Mem P cs H) (n : H T = none) : ∃ P', Mem P' cs (upd H T (.tup xs)) ∧ Ex P P' ∧ SqT K P' T xs := ⟨_, (m.newP n).1, (m.newP n).2, SqT.of upd_same⟩
theorem i_isi {K : PySem.W.Frag} {x c : V} {t u : Value} {b : Bool} {H : Hp} {Q : VK} (k : ClsV c u) (ty : TyX K H x t) (e : PySem.W.kitOne K t u = some b) (q : Q (.bl b) H) : rIsi K [x, c] H Q := ⟨x, c, t, u, b, rfl, k, ty, e, q⟩
theorem kb_bool_bool : L2.kitB "bool" "bool" = some true := by decide +kernel
theorem kb_bool_int : L2.kitB "bool" "int" = some true := by decide +kernel
theorem kb_bool_str : L2.kitB "bool" "str" = some false := by decide +kernel
theorem kb_bool_list : L2.kitB "bool" "list" = some false := by decide +kernel
theorem kb_bool_tuple : L2.kitB "bool" "tuple" = some false := by decide +kernel
theorem kb_bool_dict : L2.kitB "bool" "dict" = some false := by decide +kernel
theorem kb_int_bool : L2.kitB "int" "bool" = some false := by decide +kernel
theorem kb_int_int : L2.kitB "int" "int" = some true := by decide +kernel
theorem kb_int_str : L2.kitB "int" "str" = some false := by decide +kernel
theorem kb_int_list : L2.kitB "int" "list" = some false := by decide +kernel
theorem kb_int_tuple : L2.kitB "int" "tuple" = some false := by decide +kernel
theorem kb_int_dict : L2.kitB "int" "dict" = some false := by decide +kernel
theorem kb_str_bool : L2.kitB "str" "bool" = some false := by decide +kernel
theorem kb_str_int : L2.kitB "str" "int" = some false := by decide +kernel
theorem kb_str_str : L2.kitB "str" "str" = some true := by decide +kernel
theorem kb_str_list : L2.kitB "str" "list" = some false := by decide +kernel
theorem kb_str_tuple : L2.kitB "str" "tuple" = some false := by decide +kernel
theorem kb_str_dict : L2.kitB "str" "dict" = some false := by decide +kernel
theorem kb_NoneType_bool : L2.kitB "NoneType" "bool" = some false := by decide +kernel
theorem kb_NoneType_int : L2.kitB "NoneType" "int" = some false := by decide +kernel
theorem kb_NoneType_str : L2.kitB "NoneType" "str" = some false := by decide +kernel
theorem kb_NoneType_list : L2.kitB "NoneType" "list" = some false := by decide +kernel
theorem kb_NoneType_tuple : L2.kitB "NoneType" "tuple" = some false := by decide +kernel
theorem kb_NoneType_dict : L2.kitB "NoneType" "dict" = some false := by decide +kernel
theorem kb_list_bool : L2.kitB "list" "bool" = some false := by decide +kernel
theorem kb_list_int : L2.kitB "list" "int" = some false := by decide +kernel
theorem kb_list_str : L2.kitB "list" "str" = some false := by decide +kernel
theorem kb_list_list : L2.kitB "list" "list" = some true := by decide +kernel
theorem kb_list_tuple : L2.kitB "list" "tuple" = some false := by decide +kernel
theorem kb_list_dict : L2.kitB "list" "dict" = some false := by decide +kernel
theorem kb_tuple_bool : L2.kitB "tuple" "bool" = some false := by decide +kernel
theorem kb_tuple_int : L2.kitB "tuple" "int" = some false := by decide +kernel
theorem kb_tuple_str : L2.kitB "tuple" "str" = some false := by decide +kernel
theorem kb_tuple_list : L2.kitB "tuple" "list" = some false := by decide +kernel
theorem kb_tuple_tuple : L2.kitB "tuple" "tuple" = some true := by decide +kernel
theorem kb_tuple_dict : L2.kitB "tuple" "dict" = some false := by decide +kernel
theorem kb_dict_bool : L2.kitB "dict" "bool" = some false := by decide +kernel
theorem kb_dict_int : L2.kitB "dict" "int" = some false := by decide +kernel
theorem kb_dict_str : L2.kitB "dict" "str" = some false := by decide +kernel
theorem kb_dict_list : L2.kitB "dict" "list" = some false := by decide +kernel
theorem kb_dict_tuple : L2.kitB "dict" "tuple" = some false := by decide +kernel
theorem kb_dict_dict : L2.kitB "dict" "dict" = some true := by decide +kernel
end FS

set_option Elab.async false
set_option maxRecDepth 100000
set_option linter.all false
/-! FsRule: the layer's rules with the written part named, their readings named. -/
namespace FS
open PySem PySem.Spec PyProof.Rows L2 Evl
section
variable {X : Cx} {K : PySem.W.Frag}
theorem ixL (h : X.K = K) : IxR X (rIxL K) := by subst h; exact ix_list
theorem ixT (h : X.K = K) : IxR X (rIxT K) := by subst h; exact ix_tup
theorem slL (h : X.K = K) : SlR X (rSlL K) := by subst h; exact sl_list
theorem slT (h : X.K = K) : SlR X (rSlT K) := by subst h; exact sl_tup
def rLen (K : PySem.W.Frag) : List V → Hp → VK → Prop := fun xs H Q => ∃ p ys, xs = [.ref p] ∧ (SqL K H p ys ∨ SqT K H p ys) ∧ Q (.int ys.length) H
theorem lenQ (h : X.K = K) : CallR X (.builtin "len") (rLen K) := by subst h; exact call_len_seq
def rLenStr : List V → Hp → VK → Prop := fun xs H Q => ∃ y : Str, xs = [.str y] ∧ y.length ≤ sizeLine ∧ Q (.int y.length) H
theorem lenS : CallR X (.builtin "len") rLenStr := fun pins s σ H xs us Q I r ⟨y, e, hl, q⟩ => call_len pins s σ H xs us Q I r ⟨.str y, y.length, e, ⟨hl, rfl⟩, q⟩
theorem sumK (h : X.K = K) (hc : X.calm = true) : CallR X (.builtin "sum") (rSum K) := by subst h; exact cr_sum hc
theorem allK (h : X.K = K) (hc : X.calm = true) : CallR X (.builtin "all") (rAll K) := by subst h; exact cr_all hc
theorem anyK (h : X.K = K) (hc : X.calm = true) : CallR X (.builtin "any") (rAny K) := by subst h; exact cr_any hc
theorem maxK (h : X.K = K) (hc : X.calm = true) : CallR X (.builtin "max") (rMax K) := by subst h; exact cr_max hc
theorem minK (h : X.K = K) (hc : X.calm = true) : CallR X (.builtin "min") (rMin K) := by subst h; exact cr_min hc
theorem eqD (h : X.K = K) (hu : X.A.units + 64 < cLine) : OpR X (compareOp .Eq) (rEqD K) := by subst h; exact op_eqD hu
theorem neD (h : X.K = K) (hu : X.A.units + 64 < cLine) : OpR X (compareOp .NotEq) (rNeD K) := by subst h; exact op_neD hu
theorem inQ (h : X.K = K) : OpR X (compareOp .In) (rIn K false) := by subst h; exact op_in_seq
theorem ninQ (h : X.K = K) : OpR X (compareOp .NotIn) (rIn K true) := by subst h; exact op_notIn_seq
theorem catT (h : X.K = K) : OpR X (binaryOp .Add) (rCatT K) := by subst h; exact op_catT
def rListOf (K : PySem.W.Frag) : List V → Hp → VK → Prop := fun xs H Q => ∃ p ys, xs = [.ref p] ∧ (SqL K H p ys ∨ SqT K H p ys) ∧ NewO (.lst ys) H Q
theorem listOf (h : X.K = K) : CallR X (.type "list") (rListOf K) := by subst h; exact call_list_of
/-- tuple(l) of a list -/
def rTupOf (K : PySem.W.Frag) : List V → Hp → VK → Prop := fun xs H Q => ∃ p ys, xs = [.ref p] ∧ SqL K H p ys ∧ NewO (.tup ys) H Q
theorem tupOf (h : X.K = K) : CallR X (.type "tuple") (rTupOf K) := by
  subst h
  exact fun pins s σ H xs us Q I r ⟨p, ys, e, hq, q⟩ => call_tuple_of pins s σ H xs us Q I r ⟨p, ys, e, .inl ⟨hq, q⟩⟩
theorem isiK (h : X.K = K) : CallR X (.builtin "isinstance") (rIsi K) := by subst h; exact call_isi
theorem isiTK (h : X.K = K) : CallR X (.builtin "isinstance") (rIsiT K) := by subst h; exact call_isiT
def rAbs : List V → Hp → VK → Prop := fun xs H Q => ∃ i, xs = [.int i] ∧ Q (.int (if i < 0 then -i else i)) H
theorem absI : CallR X (.builtin "abs") rAbs := call_abs
def rMx2 : List V → Hp → VK → Prop := fun xs H Q => ∃ i j, xs = [.int i, .int j] ∧ Q (.int (if j > i then j else i)) H
theorem mx2 (hc : X.calm = true) : CallR X (.builtin "max") rMx2 := call_max2 hc
def rMn2 : List V → Hp → VK → Prop := fun xs H Q => ∃ i j, xs = [.int i, .int j] ∧ Q (.int (if j < i then j else i)) H
theorem mn2 (hc : X.calm = true) : CallR X (.builtin "min") rMn2 := call_min2 hc
def rIsBl : R2 := fun x y H Q => ∃ a b, x = .bl a ∧ y = .bl b ∧ Q (.bl (decide (a = b))) H
def rNotBl : R2 := fun x y H Q => ∃ a b, x = .bl a ∧ y = .bl b ∧ Q (.bl (!decide (a = b))) H
theorem isBl : OpR X (compareOp .Is) rIsBl := op_is_bl
theorem notBl : OpR X (compareOp .IsNot) rNotBl := op_isnot_bl

variable {tg l e o value : Expr} {es : List Expr} {tl te ta tv to : TE} {t : TA} {p pos tpos pos' apos cpos : Pos} {f name : Str}
theorem piL (h : X.K = K) (hl : PE X l tl) : PI X tg l (iList K tl) := by subst h; exact pi_list hl
theorem piT (h : X.K = K) (hl : PE X l tl) : PI X tg l (iTup K tl) := by subst h; exact pi_tup hl
theorem piE {elts : List Expr} {kk : Nat} (h : X.K = K) (hg : Gl X "enumerate") (hm : X.mg "enumerate" = none) (ha : PA X [e] t) (hs : starEach [e] X.env = [(false, eval e X.env)] := by rfl) :
    PI X (.Tuple elts kk tpos) (.Call (.Name "enumerate" p) [e] [] pos) (iEnum K t) := by subst h; exact pi_enum hg hm ha hs
theorem piZ {e2 : Expr} {elts : List Expr} {kk : Nat} (h : X.K = K) (hg : Gl X "zip") (hm : X.mg "zip" = none) (ha : PA X [e, e2] t)
    (hs : starEach [e, e2] X.env = (false, eval e X.env) :: starEach [e2] X.env := by rfl) (hpl : (backTo pos (starEach [e2] X.env)).any (·.1) = false := by rfl) :
    PI X (.Tuple elts kk tpos) (.Call (.Name "zip" p) [e, e2] [] pos) (iZip K t) := by subst h; exact pi_zip hg hm ha hs hpl
theorem peF (h : X.K = K) (he : PE X e ta) (hb : attributeBase e f X.env (eval e X.env) = eval e X.env) : PE X (.Attribute e f pos) (tFld K ta f) := by subst h; exact pe_fld he hb
theorem psF (h : X.K = K) (ha : PE X o ta) (hv : PE X value tv) (hs : swapsWith value (some (.Attribute o f pos')) pos.line X.env = pure false) : PS X (.Assign [.Attribute o f pos'] value pos) (sFld K ta tv f) := by subst h; exact ps_fld ha hv hs
theorem psFA {op : Operator} {rd : V → V → Hp → VK → Prop} (h : X.K = K) (ha : PE X o ta) (hv : PE X value tv) (hop : InOp X op rd) : PS X (.AugAssign (.Attribute o f tpos) op value pos) (sFldAug K ta tv rd f) := by subst h; exact ps_fldaug ha hv hop
theorem peM0 {T id : String} {r : V → List V → Hp → VK → Prop} (h : X.K = K) (pa : PlainAttrs T) (slot : Slot T name id) (hty : typeOf (.builtin id) = pure (.type "method_descriptor")) (hm : MtR X id r) (ho : PE X o to)
    (hbase : attributeBase o name X.env (eval o X.env) = eval o X.env := by rfl) (hline : (apos.endLine == cpos.line) = true := by rfl) : PE X (.Call (.Attribute o name apos) [] [] cpos) (tBM0 K T r to) := by
  subst h; exact pe_bm0 pa slot hty hm ho hbase hline
theorem peM {T id : String} {r : V → List V → Hp → VK → Prop} (h : X.K = K) (pa : PlainAttrs T) (slot : Slot T name id) (hty : typeOf (.builtin id) = pure (.type "method_descriptor")) (hm : MtR X id r) (ho : PE X o to) (ha : PA X (e :: es) t)
    (hbase : attributeBase o name X.env (eval o X.env) = eval o X.env := by rfl)
    (hfew : ((backTo cpos (starEach (e :: es) X.env)).all (fun x => !x.1) && (backToKw cpos (keywordEach [] X.env)).all (fun x => x.1.isSome)
      && decide ((e :: es).length + ([] : List Keyword).length + (if ([] : List Keyword).isEmpty then 0 else 1) < 30)) = true := by rfl)
    (hline : (apos.endLine == cpos.line) = true := by rfl) (hs : starEach (e :: es) X.env = (false, eval e X.env) :: starEach es X.env := by rfl) (hplain : (backTo cpos (starEach es X.env)).any (·.1) = false := by rfl) :
    PE X (.Call (.Attribute o name apos) (e :: es) [] cpos) (tBM K T r to t) := by subst h; exact pe_bm pa slot hty hm ho ha hbase hfew hline hs hplain
theorem pgT {es : List Expr} {k : Nat} {t : TGs} {n : Nat} (hK : X.K = K) (hc : X.calm = true) (h : PGs X es t)
    (hn : (assignEach es X.env).length = n := by rfl) (hst : (assignEach es X.env).findIdx? (·.1) = none := by rfl) : PG X (.Tuple es k pos) (gTup K n t) := by subst hK; exact pg_tup hc h hn hst
end
theorem tyx_l {K : PySem.W.Frag} {H : Hp} {a : Addr} {xs : List V} (h : SqL K H a xs) : TyX K H (.ref a) (.type "list") := by
  rcases h with (h | ⟨o, h⟩) | ⟨o, its, n, e, c, _⟩
  · exact .base (.lst h)
  · exact .base (.frz h)
  · exact .kList e c
theorem tyx_t {K : PySem.W.Frag} {H : Hp} {a : Addr} {xs : List V} (h : SqT K H a xs) : TyX K H (.ref a) (.type "tuple") := by
  rcases h with (h | ⟨o, h⟩) | ⟨o, its, n, e, c, _⟩
  · exact .base (.tup h)
  · exact .fTuple h
  · exact .kTuple e c
/-! their readings -/
theorem i_rAbs {i : Int} {H : Hp} {Q : VK} (q : Q (.int (if i < 0 then -i else i)) H) : rAbs [.int i] H Q := ⟨i, rfl, q⟩
theorem i_rMx2 {i j : Int} {H : Hp} {Q : VK} (q : Q (.int (if j > i then j else i)) H) : rMx2 [.int i, .int j] H Q := ⟨i, j, rfl, q⟩
theorem i_rMn2 {i j : Int} {H : Hp} {Q : VK} (q : Q (.int (if j < i then j else i)) H) : rMn2 [.int i, .int j] H Q := ⟨i, j, rfl, q⟩
theorem i_lenL {K : PySem.W.Frag} {p : Addr} {xs : List V} {H : Hp} {Q : VK} (h : SqL K H p xs) (q : Q (.int xs.length) H) : rLen K [.ref p] H Q := ⟨p, xs, rfl, .inl h, q⟩
theorem i_lenT {K : PySem.W.Frag} {p : Addr} {xs : List V} {H : Hp} {Q : VK} (h : SqT K H p xs) (q : Q (.int xs.length) H) : rLen K [.ref p] H Q := ⟨p, xs, rfl, .inr h, q⟩
theorem i_lenS {y : Str} {H : Hp} {Q : VK} (h : y.length ≤ sizeLine) (q : Q (.int y.length) H) : rLenStr [.str y] H Q := ⟨y, rfl, h, q⟩
theorem i_listL {K : PySem.W.Frag} {p : Addr} {xs : List V} {H : Hp} {Q : VK} (h : SqL K H p xs) (q : NewO (.lst xs) H Q) : rListOf K [.ref p] H Q := ⟨p, xs, rfl, .inl h, q⟩
theorem i_listT {K : PySem.W.Frag} {p : Addr} {xs : List V} {H : Hp} {Q : VK} (h : SqT K H p xs) (q : NewO (.lst xs) H Q) : rListOf K [.ref p] H Q := ⟨p, xs, rfl, .inr h, q⟩
theorem i_tupL {K : PySem.W.Frag} {p : Addr} {xs : List V} {H : Hp} {Q : VK} (h : SqL K H p xs) (q : NewO (.tup xs) H Q) : rTupOf K [.ref p] H Q := ⟨p, xs, rfl, h, q⟩
theorem i_sum {K : PySem.W.Frag} {p : Addr} {ns : List Int} {H : Hp} {Q : VK} (h : SqL K H p (ns.map V.int)) (q : Q (.int ns.sum) H) : rSum K [.ref p] H Q := ⟨p, ns, rfl, h, q⟩
theorem i_all {K : PySem.W.Frag} {p : Addr} {bs : List Bool} {H : Hp} {Q : VK} (h : SqL K H p (bs.map V.bl)) (q : Q (.bl (bs.all id)) H) : rAll K [.ref p] H Q := ⟨p, bs, rfl, h, q⟩
theorem i_any {K : PySem.W.Frag} {p : Addr} {bs : List Bool} {H : Hp} {Q : VK} (h : SqL K H p (bs.map V.bl)) (q : Q (.bl (bs.any id)) H) : rAny K [.ref p] H Q := ⟨p, bs, rfl, h, q⟩
theorem i_isBl {a b : Bool} {H : Hp} {Q : VK} (q : Q (.bl (decide (a = b))) H) : rIsBl (.bl a) (.bl b) H Q := ⟨a, b, rfl, rfl, q⟩
theorem i_notBl {a b : Bool} {H : Hp} {Q : VK} (q : Q (.bl (!decide (a = b))) H) : rNotBl (.bl a) (.bl b) H Q := ⟨a, b, rfl, rfl, q⟩
theorem i_notN {v : V} {H : Hp} {Q : VK} (q : Q (.bl (!decide (v = .non))) H) : rNotN v .non H Q := ⟨rfl, q⟩
theorem i_bm {K : PySem.W.Frag} {T : String} {r : V → List V → Hp → VK → Prop} {to : TE} {t : TA} {σ : L2.St} {H : Hp} {Q : VK} (h : to σ H fun x H1 => tyV K T x H1 ∧ t σ H1 fun xs H2 => r x xs H2 Q) : tBM K T r to t σ H Q := h
theorem i_bm0 {K : PySem.W.Frag} {T : String} {r : V → List V → Hp → VK → Prop} {to : TE} {σ : L2.St} {H : Hp} {Q : VK} (h : to σ H fun x H1 => tyV K T x H1 ∧ r x [] H1 Q) : tBM0 K T r to σ H Q := h
theorem i_tyL {K : PySem.W.Frag} {p : Addr} {xs : List V} {H : Hp} {R : Prop} (h : SqL K H p xs) (q : R) : tyV K "list" (.ref p) H ∧ R := ⟨.inl ⟨rfl, _, h⟩, q⟩
theorem i_app {P H : Hp} {cs r : List Ch} {l : Addr} {xs : List V} {y : V} {Q : VK} (m : Mem P cs H) (h : Upd cs l (.lst xs) (.lst (xs ++ [y])) r) (hl : xs.length < 100000) (q : ∀ H', Mem P r H' → Q .non H') : rAppend (.ref l) [y] H Q :=
  ⟨l, xs, y, rfl, rfl, h.rd m, sz_lt hl, q _ (m.put h)⟩
theorem i_fld {K : PySem.W.Frag} {ta : TE} {f : Str} {σ : L2.St} {H : Hp} {Q : VK} (h : ta σ H fun x H1 => ∃ a C dx fs v, x = .ref a ∧ H1 a = some (.ins C dx fs) ∧ Cls K C ∧ NoAttr K C f ∧ fs.lookup f = some v ∧ Q v H1) : tFld K ta f σ H Q := h
theorem i_eqDt {K : PySem.W.Frag} {x y : V} {d e : PyData} {H : Hp} {Q : VK} (h1 : Dp K H x d) (h2 : Dp K H y e) (s1 : SeqAt.shaped d = true) (s2 : SeqAt.shaped e = true) (q : Q (.bl (PyData.eqv d e)) H) : rEqD K x y H Q := ⟨d, e, h1, h2, s1, s2, q⟩
theorem i_neDt {K : PySem.W.Frag} {x y : V} {d e : PyData} {H : Hp} {Q : VK} (h1 : Dp K H x d) (h2 : Dp K H y e) (s1 : SeqAt.shaped d = true) (s2 : SeqAt.shaped e = true) (q : Q (.bl (!PyData.eqv d e)) H) : rNeD K x y H Q := ⟨d, e, h1, h2, s1, s2, q⟩
end FS

set_option Elab.async false
set_option maxRecDepth 100000
set_option linter.all false
/-! FsData: data as values: their depth, when == tells True. -/
namespace FS
open PySem L2 Evl
theorem layAll {ds : List PyData} (h : ∀ d ∈ ds, d.canLay0 = true) : PyData.canLayAll0 ds = true := by
  induction ds with
  | nil => simp only [PyData.canLayAll0]
  | cons d ds ih =>
    simp only [PyData.canLayAll0, Bool.and_eq_true]
    exact ⟨h d List.mem_cons_self, ih fun x hx => h x (List.mem_cons_of_mem _ hx)⟩
theorem depAll {n : Nat} {ds : List PyData} (h : ∀ d ∈ ds, d.depth ≤ n) : PyData.depthAll ds ≤ n := by
  induction ds with
  | nil => simp only [PyData.depthAll]; exact Nat.zero_le _
  | cons d ds ih =>
    simp only [PyData.depthAll]
    exact Nat.max_le.mpr ⟨h d List.mem_cons_self, ih fun x hx => h x (List.mem_cons_of_mem _ hx)⟩
/-- data that may be asked for ==, at most n deep -/
def Sh (n : Nat) (d : PyData) : Prop := d.canLay0 = true ∧ d.depth ≤ n
theorem Sh.mono {n m : Nat} {d : PyData} (h : Sh n d) (k : n ≤ m) : Sh m d := ⟨h.1, Nat.le_trans h.2 k⟩
theorem Sh.int (i : Int) : Sh 0 (.int i) := ⟨by simp only [PyData.canLay0], by simp only [PyData.depth]; exact Nat.le_refl _⟩
theorem Sh.bl (b : Bool) : Sh 0 (.bool b) := ⟨by simp only [PyData.canLay0], by simp only [PyData.depth]; exact Nat.le_refl _⟩
theorem Sh.non : Sh 0 .none := ⟨by simp only [PyData.canLay0], by simp only [PyData.depth]; exact Nat.le_refl _⟩
theorem Sh.str {x : Str} (h : PyData.strOk x = true) : Sh 0 (.str x) := ⟨by simp only [PyData.canLay0]; exact h, by simp only [PyData.depth]; exact Nat.le_refl _⟩
theorem Sh.lst {n : Nat} {ds : List PyData} (h : ∀ d ∈ ds, Sh n d) : Sh (n + 1) (.list ds) := ⟨by simp only [PyData.canLay0]; exact layAll fun d hd => (h d hd).1, by simp only [PyData.depth]; exact Nat.succ_le_succ (depAll fun d hd => (h d hd).2)⟩
theorem Sh.tup {n : Nat} {ds : List PyData} (h : ∀ d ∈ ds, Sh n d) : Sh (n + 1) (.tuple ds) := ⟨by simp only [PyData.canLay0]; exact layAll fun d hd => (h d hd).1, by simp only [PyData.depth]; exact Nat.succ_le_succ (depAll fun d hd => (h d hd).2)⟩
theorem Sh.ok {n : Nat} {d : PyData} (h : Sh n d) (k : n ≤ 64) : SeqAt.shaped d = true := by
  unfold SeqAt.shaped
  rw [h.1, decide_eq_true (Nat.le_trans h.2 k)]
  rfl
theorem eqv_self {n : Nat} {d : PyData} (h : Sh n d) : PyData.eqv d d = true := SeqAt.eqv_refl d h.1
end FS

set_option Elab.async false
set_option maxRecDepth 100000
set_option linter.all false
/-! FsStr: defs that turn data into texts: what they promise holds where no repr is under way. -/
namespace FS
open PySem PySem.Spec PyProof.Rows L2 Evl
/-- nothing is being shown -/
abbrev Calm (A : Around) : Prop := A.guards = some []
structure FnOkG (P : Program) (w : World) (K : PySem.W.Frag) (mg : Str → Option Value) (base : Heap) (CX : CXT) (k : Nat) (f : Addr) (fd : FuncData) (ps : List Str) (sp : Sp) : Prop where
  len : ∀ vs H Q E, sp vs H Q E → vs.length = ps.length
  run : ∀ (A : Around) (outer : List Env) (s : Shared) (H : Hp) (args : Args) (us : List Value) (vs : List V) (Q : VK) (E : XK), Room k A → Calm A →
    Env0 P w K mg base A outer s H → BindsTo s fd args (ps.zip us) → Vals vs us → sp vs H Q E → codeAny (model P w) A (.call (.ref f) args) (CR CX outer P w H s Q E) s
section
variable {P : Program} {w : World} {K : PySem.W.Frag} {mg : Str → Option Value} {base : Heap} {CX : CXT} {k : Nat} {f : Addr} {fd : FuncData} {ps : List Str} {sp : Sp}
theorem FnOkG.of (F : FnOk P w K mg base CX k f fd ps sp) : FnOkG P w K mg base CX k f fd ps sp :=
  ⟨F.len, fun A outer s H args us vs Q E hr _ => F.run A outer s H args us vs Q E hr⟩
/-- a promise that is kept where nothing is being shown is one of the plain kind, but with that as a premise of the room: for one way of running -/
theorem FnOkG.at (F : FnOkG P w K mg base CX k f fd ps sp) {X : Cx} (e1 : X.prog = P) (e2 : X.w = w) (e3 : X.K = K) (e4 : X.mg = mg) (e5 : X.base = base) (hc : Calm X.A) (hr : Room k X.A) {ds : List Value} {dvs : List V} {E : XK} (hb : Binds X.K fd ps ds) (hd : Vals dvs ds) (hx : Passes CX X E)
    {pins : List (Addr × Obj)} {σ : L2.St} {H : Hp} {s : Shared} {Q : VK} {us : List Value} {vs : List V} (I : Inv X pins σ H s) (r : Vals vs us) (h : sp (vs ++ dvs) H Q E) : wpAny (model X.prog X.w) X.A (call (.ref f) us) (EP X pins σ Q) X.xe s := by
  subst e1 e2 e3 e4 e5
  have all := r.append hd
  have hn : (us ++ ds).length = ps.length := all.length ▸ F.len _ _ _ _ h
  have go := F.run X.A X.stack s H ⟨us, []⟩ _ _ Q E hr hc I.env0 (hb s us I.kIn hn) all h
  refine wpAny_call (codeAny_mono go ?_)
  rintro (e | fl) s' hq
  · exact hx pins σ H s e s' I hq
  · match fl, hq with
    | .ret u, hq => exact I.after hq
    | .next, hq => exact hq.elim
    | .brk, hq => exact hq.elim
    | .cont, hq => exact hq.elim
end
section
variable {X : Cx} {CX : CXT} {k : Nat} {f : Addr} {fd : FuncData} {ps : List Str} {sp : Sp} {dvs : List V} {ds : List Value} {E : XK} {x : Str} {p pos : Pos} {e : Expr} {es : List Expr} {t : TA}
theorem peG (F : FnOkG X.prog X.w X.K X.mg X.base CX k f fd ps sp) (hc : Calm X.A) (hr : Room k X.A) (hg : Gl X x) (hm : X.mg x = some (.ref f)) (hk : PySem.W.keepIn X.K (.ref f) = true) (hb : Binds X.K fd ps ds) (hd : Vals dvs ds) (hx : Passes CX X E) (ha : PA X (e :: es) t)
    (hdb : (x == ("__debug__" : Str)) = false := by decide) (he : starEach (e :: es) X.env = (false, eval e X.env) :: starEach es X.env := by rfl) (hpl : (backTo pos (starEach es X.env)).any (·.1) = false := by rfl) :
    PE X (.Call (.Name x p) (e :: es) [] pos) (tCall sp dvs E t) := by
  constructor
  intro pins s σ H Q I h
  have run := thn (ha.run pos pins s σ H _ I h) (Q' := fun us s1 => X.K.In s1.heap ∧ wpAny (model X.prog X.w) X.A (call (.ref f) us) (EP X pins σ Q) X.xe s1)
    fun us s1 ⟨vs, H1, I1, r, q⟩ => ⟨I1.kIn, F.at rfl rfl rfl rfl rfl hc hr hb hd hx I1 r q⟩
  exact wpAny_Call_Name_kw (ld_glob I hg hm (PySem.W.callWith_K (h₀ := X.base) I.ok.mod.kin hk run he hpl) hdb)
end
/-- a def by its body, where nothing is being shown -/
theorem fnG {P : Program} {w : World} {K : PySem.W.Frag} {mg : Str → Option Value} {base : Heap} {x qual : Str} {st : Stmt} {f : Addr} {fd : FuncData} {N ps : List Str} {k : Nat} {sp : Sp} (F : Fun K x qual st f fd) (S : FnScope N ps (defScope st)) (len : ∀ vs H Q E, sp vs H Q E → vs.length = ps.length)
    (hbody : ∀ (cdv : Value) (A : Around) (outer : List Env) (s : Shared) (H : Hp) (vs : List V) (Q : VK) (E : XK), Room k (A.deeper (envOfC qual (defScope st) s.heap.objs.size f cdv)) → Calm (A.deeper (envOfC qual (defScope st) s.heap.objs.size f cdv)) → sp vs H Q E →
      ∃ t, PSs (cxOf CX0 P w K mg base N qual (defScope st) f cdv A outer s H E).nox (defBody st) t ∧ t { nx := fun _ H' => Q .non H', rt := Q } (start N vs) H) : FnOkG P w K mg base CX0 (k + 1) f fd ps sp := by
  refine ⟨len, fun A outer s H args us vs Q E hr hc e0 hb r hsp => ?_⟩
  obtain ⟨oc, od, kV, doc, pm, an, cdv, ct, osl, efd, lk, hcd⟩ := F.ex
  subst efd
  have hlen := len _ _ _ _ hsp
  have kept : ∀ b o, base.get? b = some o → s.heap.get? b = some o := fun b o e => (e0.bs b o e).1
  have inK := e0.mod.kin.keeps kept
  have bound : ∀ y ∈ ps.zip us, (defScope st).names.lookup y.1 = some .local ∨
      ((defScope st).names.lookup y.1 = some .cell ∧ ((cellsFrom (s.heap.objs.size + 1) (defScope st).names []).lookup y.1).isSome = true) := by
    rintro ⟨n, v⟩ hy
    cases S.par n (List.of_mem_zip hy).1 with
    | inl q => exact Or.inl q
    | inr q => exact Or.inr ⟨q, PySem.W.cellsFrom_some _ _ _ (Or.inl q)⟩
  refine codeAny_call_function hr.depth (inK _ _ lk) rfl S.co S.gen rfl
    (PySem.W.codeRec_of inK hcd) (hb _ _ _ _ ?_)
  refine wpAny_newFunctionEnv_cells S.kind bound (fun env ee s1 x => ?_)
  subst ee
  refine ⟨(e0.mod.nolimit.keeps kept).keeps x.toInCall.keep, codeAny_func ?_⟩
  obtain ⟨t, ht, hq⟩ := hbody cdv A outer s H vs Q E (hr.deeper _) hc hsp
  have I := inv_start (CX := CX0) (E := E) S hr.hd e0 hlen r x
  have ends : ∀ {σ' : L2.St} {H' : Hp} {v : V} {u : Value} {s' : Shared}, Inv (cxOf CX0 P w K mg base N qual (defScope st) f cdv A outer s H E) [] σ' H' s' → RelV v u → Q v H' → CE outer P w H s Q u s' := by
    intro σ' H' v u s' J rv q
    exact ⟨v, H', J.os, J.bare, J.base, J.hok, rv, q⟩
  refine wpAny_mono (ht.nox.run [] s1 _ H _ I hq) ?_ (fun e s' h => h)
  rintro (_ | _ | _ | u) s' hs
  · obtain ⟨σ', H', J, q⟩ := hs
    exact ends (v := V.non) J rfl q
  · obtain ⟨_, _, _, q⟩ := hs
    exact q.elim
  · obtain ⟨_, _, _, q⟩ := hs
    exact q.elim
  · obtain ⟨v, σ', H', J, rv, q⟩ := hs
    exact ends J rv q
/-- the law's call, from an abstract heap where nothing but the script is told -/
theorem lawG {P : Program} {w : World} {K : PySem.W.Frag} {mg mb : Str → Option Value} {k : Nat} {fa a : Addr} {fd : FuncData} {x : Str} {sp : Sp} {s1 : Shared} {H : Hp}
    (hK : K.In s1.heap) (hmg : s1.heap.Ns mainGlobals mg) (hmb : s1.heap.Ns builtinsNs mb) (hbb : ∀ y : Str, y ≠ "__name__" → mb y = bootBuiltins y) (hlim : s1.heap.NoLimit) (hgens : s1.gens = #[])
    (F : ∀ base : Heap, K.In base → base.Ns mainGlobals mg → FnOkG P w K mg base CX0 k fa fd [x] sp) (hb : ∀ (s : Shared) (u : Value), BindsTo s fd ⟨[u], []⟩ [(x, u)]) (hr : Room k callerA)
    (hok : HOk P w H s1.heap) (one : ∀ b u, H b = some u → (∃ o xs, u = .frz o (.lst xs)) ∧ K.lookup b = none ∧ ∃ o, s1.heap.get? b = some o ∧ ∀ es ep, o.data ≠ .dict es ep)
    (hsp : sp [.ref a] H (fun v _ => v = .bl true) fun _ _ _ => False) :
    codeAny (model P w) callerA (.call (.ref fa) ⟨[.ref a], []⟩) (fun r s' => r = .ok (.ret (.bool true)) ∧ OldK s1.heap s'.heap ∧ s'.os = s1.os ∧ AllBare s'.gens) s1 := by
  let B := hidT s1.heap H
  have seen : ∀ {b : Addr} {o : Obj}, s1.heap.get? b = some o → H b = none → B.get? b = some o := fun e n => hidT_get e n
  have noD : ∀ {b : Addr} {o : Obj} {es : Array DictEntry} {ep : Nat}, s1.heap.get? b = some o → o.data = .dict es ep → H b = none := by
    intro b o es ep e d
    cases q : H b with
    | none => rfl
    | some u =>
      obtain ⟨_, _, o', e', nd⟩ := one b u q
      rw [e] at e'
      cases e'
      exact absurd d (nd es ep)
  have names : ∀ {b : Addr} {m : Str → Option Value}, s1.heap.Ns b m → B.Ns b m := by
    rintro b m ⟨o, es, ep, e, d, r⟩
    exact ⟨o, es, ep, seen e (noD e d), d, r⟩
  have inB : K.In B := by
    intro b o e
    refine seen (hK b o e) ?_
    cases q : H b with
    | none => rfl
    | some u =>
      have z := (one b u q).2.1
      rw [e] at z
      cases z
  have lim : B.NoLimit := by
    obtain ⟨mc, h1, h2⟩ := hlim
    exact ⟨mc, names h1, h2⟩
  have at0 : Env0 P w K mg B callerA [] s1 H :=
    { frames := rfl, mod := ⟨inB, names hmg, ⟨mb, names hmb, hbb⟩, lim⟩, bs := fun _ _ e => of_hidT e, bsz := Nat.le_of_eq (hidT_size _ _), funs := trivial,
      frf := (fun b z => absurd (show b ∈ ([] : List Addr) from z) (by simp)), hok := hok, bare := .of_eq hgens }
  have go := (F B inB (names hmg)).run callerA [] s1 H ⟨[.ref a], []⟩ [.ref a] [.ref a] _ _ hr rfl at0 (hb s1 (.ref a)) (.cons rfl .nil) hsp
  refine codeAny_mono go ?_
  rintro (e | fl) s' h
  · exact h.elim
  · match fl, h with
    | .next, h => exact h.elim
    | .brk, h => exact h.elim
    | .cont, h => exact h.elim
    | .ret u, h =>
      obtain ⟨v, H', os, bare, un, hok', rv, qv⟩ := h
      subst qv
      cases (show u = Value.bool true from rv)
      refine ⟨rfl, OldK.of_keep ?_, os, bare⟩
      intro b o e
      cases q : H b with
      | none => exact un.keep b o e q (fun z => absurd (show b ∈ ([] : List Addr) from z) (by simp)) (fun z => by cases z)
      | some u =>
        obtain ⟨⟨ob, xs, rfl⟩, _⟩ := one b u q
        have before := (hok b _ q).1
        have behind := (hok' b _ (un.frzs b ob _ q)).1
        rw [e] at before
        cases before
        exact behind
theorem walkG {l : PySem.W.OpenLaw} {n k : Nat} {q : Program} {loose : List Str} {XP : (Str → Option Value) → Heap → Prop} {YP : World → Heap → Prop} {d : DefRec} {K : Params → PySem.W.Frag} {sp : World → Sp} {x : Str}
    (hn : l.most = some n) (hn2 : n ≤ sizeLine) (hdf : d.params.defaults = []) (hr : Room k callerA) (hY : ∀ (w : World) (h : Heap), YP w h → (K w.params).In h)
    (F : ∀ (w : World) (mg : Str → Option Value) (fa : Addr) (h : Heap), (K w.params).In h → h.Ns mainGlobals mg → mg d.name = some (.ref fa) →
      ∃ fd : FuncData, (∀ (s : Shared) (u : Value), BindsTo s fd ⟨[u], []⟩ [(x, u)]) ∧ ∀ base : Heap, (K w.params).In base → base.Ns mainGlobals mg → FnOkG l.prog w (K w.params) mg base CX0 k fa fd [x] (sp w))
    (hsp : ∀ (w : World) (H : Hp) (a : Addr) (ns : List Int), ns.length ≤ n → SqL (K w.params) H a (ns.map V.int) → sp w [.ref a] H (fun v _ => v = .bl true) fun _ _ _ => False) :
    PySem.W.WalkO q loose XP YP l.row.toRowW d [] (fun f vs => PySem.call f vs) := by
  refine Att.attach_call hn hdf ?_
  intro w s0 s1 mg mb fa o pm cd doc a vs ns G Y ho hd hcd hmg hobj hints hlen hgens
  have KX := hY w _ Y
  obtain ⟨fd, hb, hF⟩ := F w mg fa _ KX G.T.g hmg
  have rv := vals_ints hints
  have hl : ns.length ≤ sizeLine := Nat.le_trans hlen hn2
  cases hk : (K w.params).lookup a with
  | some oa =>
    -- the script stands in the written part
    have e := KX a oa hk
    rw [hobj] at e
    cases e
    refine lawG (H := fun _ => none) KX G.T.g G.T.b G.T.builtins G.T.nolimit hgens hF hb hr (fun _ _ z => by cases z) (fun _ _ z => by cases z) (hsp w _ a ns hlen (.inr ⟨_, vs.toArray, _, hk, rfl, rfl, rfl, ?_, by simpa using rv⟩))
    rw [List.size_toArray, hints.length]
    exact hl
  | none =>
    refine lawG (H := sgl a (.frz { cls := .type "list", data := .seq vs.toArray } (.lst (ns.map V.int)))) KX G.T.g G.T.b G.T.builtins G.T.nolimit hgens hF hb hr ?_ ?_ (hsp w _ a ns hlen (.inl (.inr ⟨_, if_pos rfl⟩)))
    · intro b u z
      have zb : b = a := by
        by_cases e : b = a
        · exact e
        · rw [sgl, if_neg e] at z; cases z
      subst zb
      rw [sgl, if_pos rfl] at z
      cases z
      exact ⟨hobj, by rw [List.length_map]; exact hl, vs, _, rv, hobj⟩
    · intro b u z
      have zb : b = a := by
        by_cases e : b = a
        · exact e
        · rw [sgl, if_neg e] at z; cases z
      subst zb
      rw [sgl, if_pos rfl] at z
      cases z
      exact ⟨⟨_, _, rfl⟩, hk, _, hobj, fun es ep => by intro z; cases z⟩
/-! str(..) of a list or a tuple of data -/
def rStrD (K : PySem.W.Frag) : List V → Hp → VK → Prop := fun xs H Q => ∃ (a : Addr) (d : PyData), xs = [.ref a] ∧ Dp K H (.ref a) d ∧ d.showable = true ∧ d.hasDict = false ∧ d.depth ≤ 60 ∧ d.shown.length ≤ sizeLine ∧ Q (.str d.shown) H
theorem strD {X : Cx} {K : PySem.W.Frag} (h : X.K = K) (hc : Calm X.A) (hu : X.A.units + 64 < cLine) : CallR X (.type "str") (rStrD K) := by
  subst h
  intro pins s σ H xs us Q I r h
  obtain ⟨a, d, rfl, hd, hs, hn, hdep, hz, q⟩ := h
  obtain ⟨u, rfl, ru⟩ := vals1 r
  cases (show u = Value.ref a from ru)
  obtain ⟨as, hr⟩ := Dp.reads I d _ _ hd (show RelV (.ref a) (.ref a) from rfl)
  exact str_of_reads hr hs (fun z => by rw [hn] at z; cases z) hc (by omega) (fun _ _ e => e) (fun h' u tk k => ⟨.str d.shown, H, I.kept k, ⟨_, rfl⟩, q⟩) hz
/-- data that may be shown: how deep, how long its text -/
structure Shw (n L : Nat) (d : PyData) : Prop where
  sh : d.showable = true
  hd : d.hasDict = false
  dp : d.depth ≤ n
  ln : d.shown.length ≤ L
theorem int_text_len (i : Int) {k : Nat} (hk : 0 < k) (h : i.natAbs < 2 ^ k) : (PyData.shown (.int i)).length ≤ k + 1 := by
  have e : (PyData.shown (.int i)).length = (toString i).length := by
    simp only [PyData.shown]
    exact PySem.ofString_length _
  rw [e]
  cases i with
  | ofNat n =>
    have := nat_repr_length_le (n := n) hk (by simpa using h)
    show (Nat.repr n).length ≤ _
    omega
  | negSucc n =>
    have := nat_repr_length_le (n := n + 1) hk (by simpa using h)
    show ("-" ++ Nat.repr (n + 1)).length ≤ _
    rw [String.length_append]
    have : ("-" : String).length = 1 := rfl
    omega
theorem Shw.int {i : Int} {k : Nat} (hk : 0 < k) (hk2 : k ≤ 1900) (h : i.natAbs < 2 ^ k) : Shw 0 (k + 1) (.int i) :=
  ⟨by simp only [PyData.showable]; exact decide_eq_true (Nat.lt_of_lt_of_le (PySem.Flt.log2_lt_of hk h) (by omega)), by simp only [PyData.hasDict], by simp only [PyData.depth]; exact Nat.le_refl _, int_text_len i hk h⟩
theorem Shw.mono {n L n' L' : Nat} {d : PyData} (h : Shw n L d) (a : n ≤ n') (b : L ≤ L') : Shw n' L' d := ⟨h.sh, h.hd, Nat.le_trans h.dp a, Nat.le_trans h.ln b⟩
theorem shw_all {n L : Nat} : ∀ {ds : List PyData}, (∀ d ∈ ds, Shw n L d) → PyData.showableAll ds = true ∧ PyData.hasDictAll ds = false ∧ PyData.depthAll ds ≤ n ∧ ((PyData.shownAll ds).map (·.length)).sum ≤ L * ds.length ∧ (PyData.shownAll ds).length = ds.length
  | [], _ => ⟨by simp only [PyData.showableAll], by simp only [PyData.hasDictAll], by simp only [PyData.depthAll]; exact Nat.zero_le _, by simp [PyData.shownAll], by simp [PyData.shownAll]⟩
  | d :: ds, h => by
    have h1 := h d List.mem_cons_self
    obtain ⟨a, b, c, e, f⟩ := shw_all (ds := ds) fun x hx => h x (List.mem_cons_of_mem _ hx)
    refine ⟨by simp only [PyData.showableAll, h1.sh, a, Bool.and_self], by simp only [PyData.hasDictAll, h1.hd, b, Bool.or_self], by simp only [PyData.depthAll]; exact Nat.max_le.mpr ⟨h1.dp, c⟩, ?_, by simp only [PyData.shownAll, List.length_cons, f]⟩
    simp only [PyData.shownAll, List.map_cons, List.sum_cons, List.length_cons, Nat.mul_succ]
    have := h1.ln
    omega
theorem Shw.lst {n L N : Nat} {ds : List PyData} (h : ∀ d ∈ ds, Shw n L d) (hn : ds.length ≤ N) : Shw (n + 1) ((L + 2) * N + 3) (.list ds) := by
  obtain ⟨a, b, c, e, f⟩ := shw_all h
  refine ⟨by simp only [PyData.showable]; exact a, by simp only [PyData.hasDict]; exact b, by simp only [PyData.depth]; omega, ?_⟩
  simp only [PyData.shown]
  have q := listText_len_le (PyData.shownAll ds)
  rw [f] at q
  have r1 : L * ds.length ≤ L * N := Nat.mul_le_mul_left _ hn
  have r2 : (L + 2) * N = L * N + 2 * N := Nat.add_mul _ _ _
  omega
theorem Shw.tup {n L N : Nat} {ds : List PyData} (h : ∀ d ∈ ds, Shw n L d) (hn : ds.length ≤ N) : Shw (n + 1) ((L + 2) * N + 3) (.tuple ds) := by
  obtain ⟨a, b, c, e, f⟩ := shw_all h
  refine ⟨by simp only [PyData.showable]; exact a, by simp only [PyData.hasDict]; exact b, by simp only [PyData.depth]; omega, ?_⟩
  simp only [PyData.shown]
  have q := tupleText_len_le (PyData.shownAll ds)
  rw [f] at q
  have r1 : L * ds.length ≤ L * N := Nat.mul_le_mul_left _ hn
  have r2 : (L + 2) * N = L * N + 2 * N := Nat.add_mul _ _ _
  omega
theorem i_strD {K : PySem.W.Frag} {a : Addr} {d : PyData} {n L : Nat} {H : Hp} {Q : VK} (h : Dp K H (.ref a) d) (s : Shw n L d) (hn : n ≤ 60) (hL : L ≤ 16000000) (q : Q (.str d.shown) H) : rStrD K [.ref a] H Q :=
  ⟨a, d, rfl, h, s.sh, s.hd, Nat.le_trans s.dp hn, Nat.le_trans s.ln (Nat.le_trans hL (by decide)), q⟩
end FS

set_option Elab.async false
set_option maxRecDepth 100000
set_option linter.all false
set_option maxHeartbeats 4000000
namespace Fs
open PySem L2 Evl FS
local macro_rules | `(tactic| walk_at "kb") => `(tactic| first | exact FS.kb_bool_bool | exact FS.kb_bool_int | exact FS.kb_bool_str | exact FS.kb_bool_list | exact FS.kb_bool_tuple | exact FS.kb_bool_dict | exact FS.kb_int_bool | exact FS.kb_int_int | exact FS.kb_int_str | exact FS.kb_int_list | exact FS.kb_int_tuple | exact FS.kb_int_dict | exact FS.kb_str_bool | exact FS.kb_str_int | exact FS.kb_str_str | exact FS.kb_str_list | exact FS.kb_str_tuple | exact FS.kb_str_dict | exact FS.kb_NoneType_bool | exact FS.kb_NoneType_int | exact FS.kb_NoneType_str | exact FS.kb_NoneType_list | exact FS.kb_NoneType_tuple | exact FS.kb_NoneType_dict | exact FS.kb_list_bool | exact FS.kb_list_int | exact FS.kb_list_str | exact FS.kb_list_list | exact FS.kb_list_tuple | exact FS.kb_list_dict | exact FS.kb_tuple_bool | exact FS.kb_tuple_int | exact FS.kb_tuple_str | exact FS.kb_tuple_list | exact FS.kb_tuple_tuple | exact FS.kb_tuple_dict | exact FS.kb_dict_bool | exact FS.kb_dict_int | exact FS.kb_dict_str | exact FS.kb_dict_list | exact FS.kb_dict_tuple | exact FS.kb_dict_dict)
local macro_rules | `(tactic| walk_at "exch") => `(tactic| repeat (first | assumption | exact Evl.Ex.refl _ | refine Evl.Ex.trans ?_ (by assumption)))
local macro_rules | `(tactic| walk_at "sel") => `(tactic| repeat (first | exact FS.Sel.z | apply FS.Sel.s))
local macro_rules | `(tactic| walk_at "updc") => `(tactic| repeat (first | exact FS.Upd.z | apply FS.Upd.s))
local macro_rules | `(tactic| walk_at "sets") => `(tactic| repeat (first | exact FS.SetS.z | apply FS.SetS.s))
local macro_rules | `(tactic| walk_at "setv") => `(tactic| repeat (first | exact FS.SetV.z | apply FS.SetV.s))
local macro_rules | `(tactic| walk_at "per") => `(tactic| repeat (first | exact FS.Per.nil | (refine FS.Per.cons (by walk_at "sel") ?_)))
local macro_rules | `(tactic| walk_at "sq") => `(tactic| first
  | assumption
  | exact FS.Mem.sqL (by assumption) (by assumption) (by walk_at "exch")
  | exact FS.Mem.sqT (by assumption) (by assumption) (by walk_at "exch")
  | exact FS.Mem.sqLp (by assumption) (by walk_at "sel")
  | exact FS.sqL_up (by assumption) (by walk_at "exch")
  | exact FS.sqT_up (by assumption) (by walk_at "exch"))
local macro_rules | `(tactic| walk_at "mul") => `(tactic| first
  | exact Or.inr ⟨by decide, by decide⟩ | exact Or.inl ⟨by decide, by decide⟩
  | exact Or.inr ⟨by omega, by omega⟩ | exact Or.inl ⟨by omega, by omega⟩)
local macro_rules | `(tactic| walk_at "side") => `(tactic| first | (show L2.CMul _ _; walk_at "mul") | (show (0 : Int) < _; first | decide | omega) | (show L2.CDivW _ _; first | exact ⟨by decide, by decide⟩ | apply_assumption | fail "divw"))
local macro_rules | `(tactic| walk_at "len") => `(tactic| first | decide | (simp; done) | (simp; omega) | (simp only [List.length_cons, List.length_nil]; decide) | omega)
local macro_rules | `(tactic| walk_at "go1") => `(tactic| first
  | with_reducible refine FS.i_seq ?_
  | with_reducible refine FS.i_set ?_
  | with_reducible refine FS.i_asg ?_
  | ((with_reducible show L2.gName _ _ _ _ _); refine FS.i_name (by walk_at "sets") ?_)
  | with_reducible refine FS.i_var rfl ?_
  | with_reducible refine FS.i_c ?_
  | with_reducible refine FS.i_op ?_
  | with_reducible refine FS.i_un ?_
  | with_reducible refine FS.i_aCons ?_
  | with_reducible refine FS.i_aNil ?_
  | with_reducible refine FS.i_cb ?_
  | with_reducible refine FS.i_call ?_
  | with_reducible refine FS.i_tup ?_
  | with_reducible refine FS.i_lst ?_
  | with_reducible refine FS.i_next ?_
  | with_reducible refine FS.i_ret ?_
  | with_reducible refine FS.i_drop ?_
  | with_reducible refine FS.i_ifS ?_
  | with_reducible refine FS.i_if ?_
  | with_reducible refine FS.i_test ?_
  | with_reducible refine FS.i_tB ?_
  | with_reducible refine FS.i_and ?_
  | with_reducible refine FS.i_or ?_
  | with_reducible refine FS.i_not ?_
  | with_reducible refine FS.i_andV ?_
  | with_reducible refine FS.i_orV ?_
  | with_reducible refine FS.i_notV ?_
  | with_reducible refine FS.i_chain ?_
  | with_reducible refine FS.i_slice ?_
  | with_reducible refine FS.i_noPart ?_
  | with_reducible refine FS.i_part ?_
  | with_reducible refine FS.i_for ?_
  | with_reducible refine FS.i_lc ?_
  | with_reducible refine FS.i_yes ?_
  | with_reducible refine FS.i_iList ?_
  | with_reducible refine FS.i_iTup ?_
  | with_reducible refine FS.i_iEnum ?_
  | with_reducible refine FS.i_iRng1 ?_
  | with_reducible refine FS.i_gSub ?_
  | with_reducible refine FS.i_gCons ?_
  | with_reducible refine FS.i_gNil ?_
  | with_reducible refine FS.i_rI0 ?_
  | with_reducible refine FS.i_rU ?_
  | with_reducible refine FS.i_eqI ?_
  | with_reducible refine FS.i_neI ?_
  | with_reducible refine FS.i_eqB ?_
  | with_reducible refine FS.i_neB ?_
  | with_reducible refine FS.i_eqS ?_
  | with_reducible refine FS.i_neS ?_
  | with_reducible refine FS.i_isN ?_
  | with_reducible refine FS.i_blI ?_
  | with_reducible refine L2.iteT ?_
  | with_reducible refine L2.iteF ?_
  | with_reducible refine FS.i_iteNT ?_
  | with_reducible refine FS.i_iteNF ?_
  | ((with_reducible show L2.tChain _ _ _ _ _ _ _ _); refine FS.i_chain ?_)
  | refine FS.i_p12 ?_ | refine FS.i_p18 ?_ | refine FS.i_p9 ?_ | refine FS.i_p6 ?_ | refine FS.i_p11 ?_
  | ((with_reducible show L2.rI _ _ _ _ _ _); refine FS.i_rI (by walk_at "side") ?_)
  | ((with_reducible show L2.rCat _ _ _ _); refine FS.i_cat (by assumption) (by walk_at "sel") (by walk_at "sel") ?hl ?_; (case hl => walk_at "len"))
  | ((with_reducible show L2.rIsi _ _ _ _); refine FS.i_isi (L2.ClsV.ty _) (by first | exact FS.tyx_l (by walk_at "sq") | exact FS.tyx_t (by walk_at "sq") | exact L2.TyX.base (by constructor)) (L2.kit_ty (by walk_at "kb")) ?_)
  | ((with_reducible show FS.NewT _ _ _); refine FS.i_NT (by walk_at "len") ?_; refine FS.i_newT (K := ‹PySem.W.Frag›) (by assumption) ?_; intro p P' H' m e h)
  | ((with_reducible show FS.NewL _ _ _); refine FS.i_NL (by walk_at "len") ?_)
  | ((with_reducible show L2.rIxL _ _ _ _ _); refine FS.i_ixL (by walk_at "sq") rfl ?_)
  | ((with_reducible show L2.rIxT _ _ _ _ _); refine FS.i_ixT (by walk_at "sq") rfl ?_)
  | ((with_reducible show L2.gTup _ _ _ _ _ _ _); refine FS.i_gTup (by walk_at "sq") rfl ?_)
  | ((with_reducible show L2.rSlL _ _ _ _ _ _); refine FS.i_slL (by walk_at "sq") ?_)
  | ((with_reducible show L2.rSetL _ _ _ _ _); refine FS.i_setL (by assumption) (by walk_at "sel") (by walk_at "setv") (by walk_at "updc") ?_; intro H' m)
  | with_reducible refine FS.i_rAbs ?_
  | with_reducible refine FS.i_rMx2 ?_
  | with_reducible refine FS.i_rMn2 ?_
  | with_reducible refine FS.i_isBl ?_
  | with_reducible refine FS.i_notBl ?_
  | with_reducible refine FS.i_notN ?_
  | with_reducible refine FS.i_bm ?_
  | with_reducible refine FS.i_bm0 ?_
  | with_reducible refine FS.i_fld ?_
  | ((with_reducible show FS.rLen _ _ _ _); first | refine FS.i_lenL (by walk_at "sq") ?_ | refine FS.i_lenT (by walk_at "sq") ?_)
  | ((with_reducible show FS.rListOf _ _ _ _); first | refine FS.i_listL (by walk_at "sq") ?_ | refine FS.i_listT (by walk_at "sq") ?_)
  | ((with_reducible show FS.rTupOf _ _ _ _); refine FS.i_tupL (by walk_at "sq") ?_)
  | ((with_reducible show L2.tyV _ _ _ _ ∧ _); refine FS.i_tyL (by walk_at "sq") ?_)
  | ((with_reducible show L2.rAppend _ _ _ _); refine FS.i_app (by assumption) (by walk_at "updc") (by walk_at "len") ?_; intro H' m)
  | with_reducible refine FS.i_someI ?_)
local macro_rules | `(tactic| walk_at "go") => `(tactic| repeat walk_at "go1")
local macro_rules | `(tactic| walk_at "ite") => `(tactic| first | refine FS.i_ndec ?_ ?_ | refine FS.i_dec ?_ ?_ | refine FS.i_ite ?_ ?_)
local macro_rules | `(tactic| walk_at "newL") => `(tactic| first
  | (refine FS.i_newL (K := ‹PySem.W.Frag›) (by assumption) ?_; intro p P' H' m e h)
  | (refine FS.i_newP (by assumption) ?_; intro p P' H' m e h))
local macro_rules | `(tactic| walk_at "newM") => `(tactic| (refine FS.i_newM (by assumption) ?_; intro p H' m))
local macro_rules | `(tactic| walk_at "neg1") => `(tactic| skip)

def top (i : Nat) : Stmt := PySem.Challenge.pw_farshelf_k22_overrun.main.body.getD i (.Pass ⟨0, 0, 0, 0⟩)
abbrev s_least_span : Stmt := top 1
abbrev N_least_span : List Str := ["bounds", "kept"]
theorem sc_least_span : FnScope ["bounds", "kept"] ["bounds", "kept"] (defScope s_least_span) := ⟨rfl, rfl, rfl, by decide +kernel, rfl, by decide +kernel, by decide +kernel⟩
abbrev s_least_growth : Stmt := top 2
abbrev N_least_growth : List Str := ["bounds", "s"]
theorem sc_least_growth : FnScope ["bounds", "s"] ["bounds", "s"] (defScope s_least_growth) := ⟨rfl, rfl, rfl, by decide +kernel, rfl, by decide +kernel, by decide +kernel⟩
abbrev s_overrun : Stmt := top 3
abbrev N_overrun : List Str := ["bounds", "kept", "lease", "s"]
theorem sc_overrun : FnScope ["bounds", "kept", "lease", "s"] ["bounds", "kept", "lease"] (defScope s_overrun) := ⟨rfl, rfl, rfl, by decide +kernel, rfl, by decide +kernel, by decide +kernel⟩
abbrev s_law_begin : Stmt := top 5
abbrev N_law_begin : List Str := ["_law_cell", "_law_k"]
theorem sc_law_begin : FnScope ["_law_cell", "_law_k"] ["_law_cell", "_law_k"] (defScope s_law_begin) := ⟨rfl, rfl, rfl, by decide +kernel, rfl, by decide +kernel, by decide +kernel⟩
abbrev s_law_next : Stmt := top 6
abbrev N_law_next : List Str := ["_law_state", "_law_many", "_law_value", "_law_one"]
theorem sc_law_next : FnScope ["_law_state", "_law_many", "_law_value", "_law_one"] ["_law_state", "_law_many"] (defScope s_law_next) := ⟨rfl, rfl, rfl, by decide +kernel, rfl, by decide +kernel, by decide +kernel⟩
abbrev s_law_pick : Stmt := top 7
abbrev N_law_pick : List Str := ["_law_state", "_law_some"]
theorem sc_law_pick : FnScope ["_law_state", "_law_some"] ["_law_state", "_law_some"] (defScope s_law_pick) := ⟨rfl, rfl, rfl, by decide +kernel, rfl, by decide +kernel, by decide +kernel⟩
abbrev s_law_bounds : Stmt := top 8
abbrev N_law_bounds : List Str := ["_law_state", "_law_far", "_law_b", "_law_c"]
theorem sc_law_bounds : FnScope ["_law_state", "_law_far", "_law_b", "_law_c"] ["_law_state"] (defScope s_law_bounds) := ⟨rfl, rfl, rfl, by decide +kernel, rfl, by decide +kernel, by decide +kernel⟩
abbrev s_law_least : Stmt := top 9
abbrev N_law_least : List Str := ["_law_bounds_here", "_law_s", "_law_growth"]
theorem sc_law_least : FnScope ["_law_bounds_here", "_law_s", "_law_growth"] ["_law_bounds_here", "_law_s"] (defScope s_law_least) := ⟨rfl, rfl, rfl, by decide +kernel, rfl, by decide +kernel, by decide +kernel⟩
abbrev s_law_most : Stmt := top 10
abbrev N_law_most : List Str := ["_law_bounds_here", "_law_s"]
theorem sc_law_most : FnScope ["_law_bounds_here", "_law_s"] ["_law_bounds_here", "_law_s"] (defScope s_law_most) := ⟨rfl, rfl, rfl, by decide +kernel, rfl, by decide +kernel, by decide +kernel⟩
abbrev s_law_can : Stmt := top 11
abbrev N_law_can : List Str := ["_law_bounds_here", "_law_lease"]
theorem sc_law_can : FnScope ["_law_bounds_here", "_law_lease"] ["_law_bounds_here", "_law_lease"] (defScope s_law_can) := ⟨rfl, rfl, rfl, by decide +kernel, rfl, by decide +kernel, by decide +kernel⟩
abbrev s_law_fits : Stmt := top 12
abbrev N_law_fits : List Str := ["_law_bounds_here", "_law_kept", "_law_lease", "_law_pieces", "_law_s", "_law_g", "_law_h", "_law_growth", "_law_piece"]
theorem sc_law_fits : FnScope ["_law_bounds_here", "_law_kept", "_law_lease", "_law_pieces", "_law_s", "_law_g", "_law_h", "_law_growth", "_law_piece"] ["_law_bounds_here", "_law_kept", "_law_lease", "_law_pieces"] (defScope s_law_fits) := ⟨rfl, rfl, rfl, by decide +kernel, rfl, by decide +kernel, by decide +kernel⟩
abbrev s_law_same : Stmt := top 13
abbrev N_law_same : List Str := ["_law_found", "_law_due"]
theorem sc_law_same : FnScope ["_law_found", "_law_due"] ["_law_found", "_law_due"] (defScope s_law_same) := ⟨rfl, rfl, rfl, by decide +kernel, rfl, by decide +kernel, by decide +kernel⟩
abbrev s_law_right : Stmt := top 14
abbrev N_law_right : List Str := ["_law_found", "_law_bounds_here", "_law_kept", "_law_lease", "_law_piece", "_law_one"]
theorem sc_law_right : FnScope ["_law_found", "_law_bounds_here", "_law_kept", "_law_lease", "_law_piece", "_law_one"] ["_law_found", "_law_bounds_here", "_law_kept", "_law_lease"] (defScope s_law_right) := ⟨rfl, rfl, rfl, by decide +kernel, rfl, by decide +kernel, by decide +kernel⟩
abbrev s_law : Stmt := top 15
abbrev N_law : List Str := ["_law_script", "_law_k", "_law_cell", "_law_state", "_law_bounds_here", "_law_lease", "_law_can_here", "_law_kept", "_law_found", "_law_copy"]
theorem sc_law : FnScope ["_law_script", "_law_k", "_law_cell", "_law_state", "_law_bounds_here", "_law_lease", "_law_can_here", "_law_kept", "_law_found", "_law_copy"] ["_law_script"] (defScope s_law) := ⟨rfl, rfl, rfl, by decide +kernel, rfl, by decide +kernel, by decide +kernel⟩
structure Txt (K : PySem.W.Frag) (mg : Str → Option Value) (a : Nat → Addr) (c : Nat → Addr) (fd : Nat → FuncData) : Prop where
  F0 : Fun K "least_span" "least_span" s_least_span (a 0) (fd 0)
  b0 : Binds K (fd 0) ["bounds", "kept"] []
  m0 : mg "least_span" = some (.ref (a 0))
  F1 : Fun K "least_growth" "least_growth" s_least_growth (a 1) (fd 1)
  b1 : Binds K (fd 1) ["bounds", "s"] []
  m1 : mg "least_growth" = some (.ref (a 1))
  F2 : Fun K "overrun" "overrun" s_overrun (a 2) (fd 2)
  b2 : Binds K (fd 2) ["bounds", "kept", "lease"] []
  m2 : mg "overrun" = some (.ref (a 2))
  F3 : Fun K "_law_begin" "_law_begin" s_law_begin (a 3) (fd 3)
  b3 : Binds K (fd 3) ["_law_cell", "_law_k"] []
  m3 : mg "_law_begin" = some (.ref (a 3))
  F4 : Fun K "_law_next" "_law_next" s_law_next (a 4) (fd 4)
  b4 : Binds K (fd 4) ["_law_state", "_law_many"] []
  m4 : mg "_law_next" = some (.ref (a 4))
  F5 : Fun K "_law_pick" "_law_pick" s_law_pick (a 5) (fd 5)
  b5 : Binds K (fd 5) ["_law_state", "_law_some"] []
  m5 : mg "_law_pick" = some (.ref (a 5))
  F6 : Fun K "_law_bounds" "_law_bounds" s_law_bounds (a 6) (fd 6)
  b6 : Binds K (fd 6) ["_law_state"] []
  m6 : mg "_law_bounds" = some (.ref (a 6))
  F7 : Fun K "_law_least" "_law_least" s_law_least (a 7) (fd 7)
  b7 : Binds K (fd 7) ["_law_bounds_here", "_law_s"] []
  m7 : mg "_law_least" = some (.ref (a 7))
  F8 : Fun K "_law_most" "_law_most" s_law_most (a 8) (fd 8)
  b8 : Binds K (fd 8) ["_law_bounds_here", "_law_s"] []
  m8 : mg "_law_most" = some (.ref (a 8))
  F9 : Fun K "_law_can" "_law_can" s_law_can (a 9) (fd 9)
  b9 : Binds K (fd 9) ["_law_bounds_here", "_law_lease"] []
  m9 : mg "_law_can" = some (.ref (a 9))
  F10 : Fun K "_law_fits" "_law_fits" s_law_fits (a 10) (fd 10)
  b10 : Binds K (fd 10) ["_law_bounds_here", "_law_kept", "_law_lease", "_law_pieces"] []
  m10 : mg "_law_fits" = some (.ref (a 10))
  F11 : Fun K "_law_same" "_law_same" s_law_same (a 11) (fd 11)
  b11 : Binds K (fd 11) ["_law_found", "_law_due"] []
  m11 : mg "_law_same" = some (.ref (a 11))
  F12 : Fun K "_law_right" "_law_right" s_law_right (a 12) (fd 12)
  b12 : Binds K (fd 12) ["_law_found", "_law_bounds_here", "_law_kept", "_law_lease"] []
  m12 : mg "_law_right" = some (.ref (a 12))
  F13 : Fun K "law" "law" s_law (a 13) (fd 13)
  b13 : Binds K (fd 13) ["_law_script"] []
  m13 : mg "law" = some (.ref (a 13))
  g_max : mg "max" = none
  g_abs : mg "abs" = none
  g_len : mg "len" = none
  g_sum : mg "sum" = none
  g_str : mg "str" = none
  g_isinstance : mg "isinstance" = none
  g_list : mg "list" = none
  g_tuple : mg "tuple" = none
  g_bool : mg "bool" = none
  g_int : mg "int" = none
  g_enumerate : mg "enumerate" = none
def DrawOk (o : HO) : Prop := ∃ x y n : Int, o = .lst [.int x, .int y, .int n]
abbrev draw (st : Addr) : Ch := ptx st DrawOk
def spBegin : Sp := fun vs H Q _ => ∃ P cs x k, vs = [.int x, .int k] ∧ Mem P cs H ∧ ∀ st H', Mem P (draw st :: cs) H' → Q (.ref st) H'
def spNext : Sp := fun vs H Q _ => ∃ P F st many, vs = [.ref st, .int many] ∧ 0 < many ∧ many < 2 ^ 100 ∧ Mem P (draw st :: F) H ∧ ∀ r H', 0 ≤ r → r < many → Mem P (draw st :: F) H' → Q (.int r) H'
section
variable {P : Program} {w : World} {K : PySem.W.Frag} {mg : Str → Option Value} {base : Heap} {a c : Nat → Addr} {fd : Nat → FuncData}
theorem divw {j : Int} (h : 0 < j) (h2 : j < 2 ^ 100) (i : Int) : CDivW i j := wide_div (b := 100) h (by omega) (by decide) (by decide)
theorem ok_law_begin (T : Txt K mg a c fd) : FnOk P w K mg base CX0 1 (a 3) (fd 3) ["_law_cell", "_law_k"] (spBegin) := by
  refine T.F3.ok sc_law_begin (fun vs H Q E h => ?_) (fun cdv A outer s H vs Q E hr h => ?_)
  · obtain ⟨_, _, _, _, rfl, _⟩ := h; rfl
  · obtain ⟨P0, cs, x, k, rfl, m, q⟩ := h
    refine ⟨_, (pss_one (ps_ret (pe_lst (pa_cons (pe_callB (mx2 rfl) (by rfl) T.g_max (by decide +kernel) (pa_cons pe_int (pa_cons (pe_op op_sub (pe_callB absI (by rfl) T.g_abs (by decide +kernel) (pa_cons (pv 0) pa_nil)) (pe_op op_pow pe_int pe_int)) pa_nil))) (pa_cons (pe_op op_add (pe_op op_mod (pv 0) pe_int) (pe_op op_mul pe_int (pv 1))) (pa_cons pe_int pa_nil)))))), ?_⟩
    walk_at "go"
    walk_at "newM"
    exact q _ _ (Mem.tox (by assumption) ⟨_, _, _, rfl⟩)
theorem ok_law_next (T : Txt K mg a c fd) : FnOk P w K mg base CX0 1 (a 4) (fd 4) ["_law_state", "_law_many"] (spNext) := by
  refine T.F4.ok sc_law_next (fun vs H Q E h => ?_) (fun cdv A outer s H vs Q E hr h => ?_)
  · obtain ⟨_, _, _, _, rfl, _⟩ := h; rfl
  · obtain ⟨P0, F, st, many, rfl, h0, h1, m, q⟩ := h
    obtain ⟨o, ⟨x, y, n, rfl⟩, m⟩ := m.rdx
    have dw := divw h0 h1
    refine ⟨_, (pss_cons (ps_asg (pe_op op_add (pe_ix (ixL (K := K) rfl) (pv 0) pe_int (fun _ _ => rfl)) pe_int) (pg_sub (pv 0) pe_int set_list))
      (pss_cons (ps_if (pt_cmpR op_gt (pe_ix (ixL (K := K) rfl) (pv 0) pe_int (fun _ _ => rfl)) pe_int (nomark _)) (pss_cons (ps_set (i := 2) sc_law_next.nd rfl (Or.inl rfl) (pe_op op_mod (pe_ix (ixL (K := K) rfl) (pv 0) pe_int (fun _ _ => rfl)) (pv 1)))
      (pss_cons (ps_asg (pe_op op_fdivW (pe_ix (ixL (K := K) rfl) (pv 0) pe_int (fun _ _ => rfl)) (pv 1)) (pg_sub (pv 0) pe_int set_list))
      (pss_one (ps_ret (pv 2))))) pss_nil)
      (pss_cons (ps_set (i := 3) sc_law_next.nd rfl (Or.inl rfl) (pe_op op_mod (pe_op op_mul (pe_op op_add (pe_op op_add (pe_ix (ixL (K := K) rfl) (pv 0) pe_int (fun _ _ => rfl)) (pe_op op_mul pe_int (pe_ix (ixL (K := K) rfl) (pv 0) pe_int (fun _ _ => rfl)))) pe_int) pe_int) pe_int))
      (pss_one (ps_ret (pe_op op_mod (pe_op op_mod (pe_op op_mul (pe_op op_fdivW (pe_op op_mod (pe_op op_mul (pv 3) (pv 3)) pe_int) pe_int) pe_int) pe_int) (pv 1))))))), ?_⟩
    walk_at "go"
    refine i_dec (fun hx => ?_) (fun hx => ?_)
    · walk_at "go"
      exact q _ _ (Int.emod_nonneg _ (by omega)) (Int.emod_lt_of_pos _ h0) (Mem.tox (by assumption) ⟨_, _, _, rfl⟩)
    · walk_at "go"
      exact q _ _ (Int.emod_nonneg _ (by omega)) (Int.emod_lt_of_pos _ h0) (Mem.tox (by assumption) ⟨_, _, _, rfl⟩)
theorem atI_mem {xs : List V} {i : Int} (h0 : 0 ≤ i) (h1 : i < xs.length) : ∃ v, atI xs i = some v ∧ v ∈ xs := by
  unfold atI ixN
  rw [if_pos h0, if_pos h1]
  have h2 : i.toNat < xs.length := by omega
  exact ⟨xs[i.toNat], by simp [h2], List.getElem_mem h2⟩
def spPick (K : PySem.W.Frag) : Sp := fun vs H Q _ => ∃ P F st p xs, vs = [.ref st, .ref p] ∧ SqL K P p xs ∧ 0 < xs.length ∧ xs.length ≤ 1000 ∧ Mem P (draw st :: F) H ∧ ∀ v H', v ∈ xs → Mem P (draw st :: F) H' → Q v H'
theorem ok_law_pick (T : Txt K mg a c fd) : FnOk P w K mg base CX0 2 (a 5) (fd 5) ["_law_state", "_law_some"] (spPick K) := by
  refine T.F5.ok sc_law_pick (fun vs H Q E h => ?_) (fun cdv A outer s H vs Q E hr h => ?_)
  · obtain ⟨_, _, _, _, _, rfl, _⟩ := h; rfl
  · obtain ⟨P0, F, st, p, xs, rfl, hp, h0, h1, m, q⟩ := h
    have G_law_next := ok_law_next (P := P) (w := w) (base := base) T
    refine ⟨_, (pss_one (ps_ret (pe_ix (ixL (K := K) rfl) (pv 1) (pe_call G_law_next hr rfl T.m4 T.F4.kp T.b4 .nil pass0 (pa_cons (pv 0) (pa_cons (pe_callB (lenQ (K := K) rfl) (by rfl) T.g_len (by decide +kernel) (pa_cons (pv 1) pa_nil)) pa_nil))) (fun _ _ => rfl)))), ?_⟩
    walk_at "go"
    refine ⟨P0, F, st, _, rfl, by omega, by omega, m, fun r H1 r0 r1 m1 => ?_⟩
    obtain ⟨v, e1, e2⟩ := atI_mem r0 r1
    exact i_ixL (m1.sqL hp (Ex.refl _)) e1 (q _ _ e2 m1)
def spBounds (K : PySem.W.Frag) : Sp := fun vs H Q _ => ∃ P F st, vs = [.ref st] ∧ Mem P (draw st :: F) H ∧ ∀ (p : Addr) P' H' a b c d, Ex P P' → SqT K P' p [.int a, .int b, .int c, .int d] → 0 < a → a ≤ b → b ≤ 1000000000000 → 0 < d → d ≤ c → c ≤ 1000000000000 → Mem P' (draw st :: F) H' → Q (.ref p) H'
theorem ok_law_bounds (T : Txt K mg a c fd) : FnOk P w K mg base CX0 3 (a 6) (fd 6) ["_law_state"] (spBounds K) := by
  refine T.F6.ok sc_law_bounds (fun vs H Q E h => ?_) (fun cdv A outer s H vs Q E hr h => ?_)
  · obtain ⟨_, _, _, rfl, _⟩ := h; rfl
  · obtain ⟨P0, F, st, rfl, m, q⟩ := h
    have G_law_pick := ok_law_pick (P := P) (w := w) (base := base) T
    have G_law_next := ok_law_next (P := P) (w := w) (base := base) T
    refine ⟨_, (pss_cons (ps_set (i := 1) sc_law_bounds.nd rfl (Or.inl rfl) (pe_call G_law_pick hr rfl T.m5 T.F5.kp T.b5 .nil pass0 (pa_cons (pv 0) (pa_cons (pe_lst (pa_cons pe_int (pa_cons pe_int (pa_cons pe_int (pa_cons (pe_op op_pow pe_int pe_int) pa_nil))))) pa_nil))))
      (pss_cons (ps_set (i := 2) sc_law_bounds.nd rfl (Or.inl rfl) (pe_op op_add pe_int (pe_call G_law_next (hr.mono (by decide)) rfl T.m4 T.F4.kp T.b4 .nil pass0 (pa_cons (pv 0) (pa_cons (pv 1) pa_nil)))))
      (pss_cons (ps_set (i := 3) sc_law_bounds.nd rfl (Or.inl rfl) (pe_op op_add pe_int (pe_call G_law_next (hr.mono (by decide)) rfl T.m4 T.F4.kp T.b4 .nil pass0 (pa_cons (pv 0) (pa_cons (pv 1) pa_nil)))))
      (pss_one (ps_ret (pe_tup (pa_cons (pe_op op_add pe_int (pe_call G_law_next (hr.mono (by decide)) rfl T.m4 T.F4.kp T.b4 .nil pass0 (pa_cons (pv 0) (pa_cons (pv 2) pa_nil)))) (pa_cons (pv 2) (pa_cons (pv 3) (pa_cons (pe_op op_add pe_int (pe_call G_law_next (hr.mono (by decide)) rfl T.m4 T.F4.kp T.b4 .nil pass0 (pa_cons (pv 0) (pa_cons (pv 3) pa_nil)))) pa_nil)))))))))), ?_⟩
    walk_at "go"
    walk_at "newL"
    walk_at "go"
    refine ⟨_, F, st, _, _, rfl, by assumption, by decide, by decide, by assumption, fun v H1 hv m1 => ?_⟩
    have hf : ∃ f : Int, v = .int f ∧ 0 < f ∧ f ≤ 1000000000000 := by
      simp only [List.mem_cons, List.not_mem_nil, or_false] at hv
      rcases hv with rfl | rfl | rfl | rfl <;> exact ⟨_, rfl, by decide, by decide⟩
    obtain ⟨f, rfl, f0, f1⟩ := hf
    walk_at "go"
    refine ⟨_, F, st, _, rfl, by omega, by omega, by assumption, fun b H2 b0 b1 m2 => ?_⟩
    walk_at "go"
    refine ⟨_, F, st, _, rfl, by omega, by omega, by assumption, fun c H3 c0 c1 m3 => ?_⟩
    walk_at "go"
    refine ⟨_, F, st, _, rfl, by omega, by omega, by assumption, fun x H4 x0 x1 m4 => ?_⟩
    walk_at "go"
    refine ⟨_, F, st, _, rfl, by omega, by omega, by assumption, fun d H5 d0 d1 m5 => ?_⟩
    walk_at "go"
    refine q _ _ _ _ _ _ _ ?_ (by assumption) (by omega) (by omega) (by omega) (by omega) (by omega) (by omega) (by assumption)
    walk_at "exch"
def leastI (a b s : Int) : Int := if s * a / b * b < s * a then s * a / b + 1 else s * a / b
def spLeast (K : PySem.W.Frag) : Sp := fun vs H Q _ => ∃ (P : Hp) (cs : List Ch) (p : Addr) (a b c d s : Int), vs = [.ref p, .int s] ∧ SqT K P p [.int a, .int b, .int c, .int d] ∧ 0 < a ∧ a ≤ b ∧ b ≤ 1000000000000 ∧ Mem P cs H ∧ Q (.int (leastI a b s)) H
theorem ok_law_least (T : Txt K mg a c fd) : FnOk P w K mg base CX0 1 (a 7) (fd 7) ["_law_bounds_here", "_law_s"] (spLeast K) := by
  refine T.F7.ok sc_law_least (fun vs H Q E h => ?_) (fun cdv A outer s H vs Q E hr h => ?_)
  · obtain ⟨_, _, _, _, _, _, _, _, rfl, _⟩ := h; rfl
  · obtain ⟨P0, cs, p, x, y, z, u, s, rfl, hp, a0, ab, b1, m, q⟩ := h
    have dw := divw (j := y) (by omega) (by omega)
    refine ⟨_, (pss_cons (ps_set (i := 2) sc_law_least.nd rfl (Or.inl rfl) (pe_op op_fdivW (pe_op op_mul (pv 1) (pe_ix (ixT (K := K) rfl) (pv 0) pe_int (fun _ _ => rfl))) (pe_ix (ixT (K := K) rfl) (pv 0) pe_int (fun _ _ => rfl))))
      (pss_cons (ps_if (pt_cmpR op_lt (pe_op op_mul (pv 2) (pe_ix (ixT (K := K) rfl) (pv 0) pe_int (fun _ _ => rfl))) (pe_op op_mul (pv 1) (pe_ix (ixT (K := K) rfl) (pv 0) pe_int (fun _ _ => rfl))) (nomark _)) (pss_one (ps_set (i := 2) sc_law_least.nd rfl (Or.inl rfl) (pe_op op_add (pv 2) pe_int))) pss_nil)
      (pss_one (ps_ret (pv 2))))), ?_⟩
    walk_at "go"
    walk_at "ite" <;> intro hc
    · walk_at "go"
      unfold leastI at q
      rw [if_pos hc] at q
      exact q
    · walk_at "go"
      unfold leastI at q
      rw [if_neg hc] at q
      exact q
def mostI (c d s : Int) : Int := s * c / d
def spMost (K : PySem.W.Frag) : Sp := fun vs H Q _ => ∃ (P : Hp) (cs : List Ch) (p : Addr) (a b c d s : Int), vs = [.ref p, .int s] ∧ SqT K P p [.int a, .int b, .int c, .int d] ∧ 0 < d ∧ d ≤ c ∧ c ≤ 1000000000000 ∧ Mem P cs H ∧ Q (.int (mostI c d s)) H
theorem ok_law_most (T : Txt K mg a c fd) : FnOk P w K mg base CX0 1 (a 8) (fd 8) ["_law_bounds_here", "_law_s"] (spMost K) := by
  refine T.F8.ok sc_law_most (fun vs H Q E h => ?_) (fun cdv A outer s H vs Q E hr h => ?_)
  · obtain ⟨_, _, _, _, _, _, _, _, rfl, _⟩ := h; rfl
  · obtain ⟨P0, cs, p, x, y, z, u, s, rfl, hp, a0, ab, b1, m, q⟩ := h
    have dw := divw (j := u) (by omega) (by omega)
    refine ⟨_, (pss_one (ps_ret (pe_op op_fdivW (pe_op op_mul (pv 1) (pe_ix (ixT (K := K) rfl) (pv 0) pe_int (fun _ _ => rfl))) (pe_ix (ixT (K := K) rfl) (pv 0) pe_int (fun _ _ => rfl))))), ?_⟩
    walk_at "go"
    exact q
theorem SqL_of_mem {K : PySem.W.Frag} {P H : Hp} {cs : List Ch} {a : Addr} {xs : List V} (m : Mem P cs H) (h : SqL K P a xs) : SqL K H a xs := ex_l m.ex h
theorem most_bd {c d s : Int} (s0 : 0 ≤ s) (s1 : s < 1000000000000) (hd : 0 < d) (hc : 0 < c) (c1 : c ≤ 1000000000000) : 0 ≤ mostI c d s ∧ mostI c d s ≤ 1000000000000000000000000 := by
  unfold mostI
  have h0 : 0 ≤ s * c := Int.mul_nonneg s0 (by omega)
  have h1 : s * c ≤ 1000000000000 * 1000000000000 := Int.mul_le_mul (by omega) c1 (by omega) (by decide)
  have h2 : s * c / d ≤ s * c := Int.ediv_le_self _ h0
  have h3 : 0 ≤ s * c / d := Int.ediv_nonneg h0 (by omega)
  omega
theorem cutV_mem {xs : List V} {lo hi : Option Int} {x : V} (h : x ∈ cutV xs lo hi) : x ∈ xs := List.mem_of_mem_drop (List.mem_of_mem_take h)
theorem cutV_len {xs : List V} {lo hi : Option Int} : (cutV xs lo hi).length ≤ xs.length := by
  unfold cutV
  rw [List.length_take, List.length_drop]
  omega

def withinI (a b c d s g : Int) : Bool := decide (s * a ≤ g * b) && decide (g * d ≤ s * c)
theorem withinI_eq {a b c d : Int} (s g : Int) (hb : 0 < b) (hd : 0 < d) : withinI a b c d s g = (decide (leastI a b s ≤ g) && decide (g ≤ mostI c d s)) := by
  have h1 : s * a ≤ g * b ↔ leastI a b s ≤ g := by
    unfold leastI
    have e1 : s * a / b * b ≤ s * a := Int.ediv_mul_le _ (by omega)
    have e2 : s * a < (s * a / b + 1) * b := Int.lt_ediv_add_one_mul_self _ hb
    split
    · rename_i h
      constructor
      · intro k
        have : s * a / b * b < g * b := by omega
        have := Int.lt_of_mul_lt_mul_right this (by omega)
        omega
      · intro k
        have : (s * a / b + 1) * b ≤ g * b := Int.mul_le_mul_of_nonneg_right k (by omega)
        omega
    · rename_i h
      constructor
      · intro k
        have : s * a / b * b ≤ g * b := by omega
        exact Int.le_of_mul_le_mul_right this hb
      · intro k
        have : s * a / b * b ≤ g * b := Int.mul_le_mul_of_nonneg_right k (by omega)
        omega
  have h2 : g * d ≤ s * c ↔ g ≤ mostI c d s := by
    unfold mostI
    exact (Int.le_ediv_iff_mul_le hd).symm
  unfold withinI
  rw [decide_eq_decide.mpr h1, decide_eq_decide.mpr h2]

def ceilI (x y : Int) : Int := -(-x / y)
theorem ceil_le {x y z : Int} (hy : 0 < y) : ceilI x y ≤ z ↔ x ≤ z * y := by
  unfold ceilI
  have h : -z ≤ -x / y ↔ -z * y ≤ -x := Int.le_ediv_iff_mul_le hy
  rw [Int.neg_mul] at h
  omega
def spanI (c d k : Int) : Int := ceilI (k * d) c
def growI (a b s : Int) : Int := ceilI (s * a) b
/-- the bounds of a law, at a place -/
structure Bds (K : PySem.W.Frag) (P : Hp) (p : Addr) (a b c d : Int) : Prop where
  at_ : SqT K P p [.int a, .int b, .int c, .int d]
  a0 : 0 < a
  ab : a ≤ b
  b1 : b ≤ 1000000000000
  d0 : 0 < d
  dc : d ≤ c
  c1 : c ≤ 1000000000000
theorem Bds.up {K : PySem.W.Frag} {P P' : Hp} {p : Addr} {a b c d : Int} (h : Bds K P p a b c d) (e : Ex P P') : Bds K P' p a b c d := { h with at_ := ex_t e h.at_ }
def spLS (K : PySem.W.Frag) : Sp := fun vs H Q _ => ∃ (P : Hp) (cs : List Ch) (p : Addr) (a b c d k : Int), vs = [.ref p, .int k] ∧ Bds K P p a b c d ∧ Mem P cs H ∧ Q (.int (spanI c d k)) H
theorem ok_least_span (T : Txt K mg a c fd) : FnOk P w K mg base CX0 1 (a 0) (fd 0) ["bounds", "kept"] (spLS K) := by
  refine T.F0.ok sc_least_span (fun vs H Q E h => ?_) (fun cdv A outer s H vs Q E hr h => ?_)
  · obtain ⟨_, _, _, _, _, _, _, _, rfl, _⟩ := h; rfl
  · obtain ⟨P0, cs, p, a, b, c, d, k, rfl, B, m, q⟩ := h
    have hp := B.at_
    have dw := divw (j := c) (by have := B.d0; have := B.dc; omega) (by have := B.c1; omega)
    have d0 := B.d0
    have d1 : d ≤ 1000000000000 := Int.le_trans B.dc B.c1
    refine ⟨_, (pss_one (ps_ret (pe_un un_neg (pe_op op_fdivW (pe_op op_mul (pe_un un_neg (pv 1)) (pe_ix (ixT (K := K) rfl) (pv 0) pe_int (fun _ _ => rfl))) (pe_ix (ixT (K := K) rfl) (pv 0) pe_int (fun _ _ => rfl)))))), ?_⟩
    walk_at "go"
    unfold spanI ceilI at q
    rw [← Int.neg_mul] at q
    exact q
def spLG (K : PySem.W.Frag) : Sp := fun vs H Q _ => ∃ (P : Hp) (cs : List Ch) (p : Addr) (a b c d s : Int), vs = [.ref p, .int s] ∧ Bds K P p a b c d ∧ Mem P cs H ∧ Q (.int (growI a b s)) H
theorem ok_least_growth (T : Txt K mg a c fd) : FnOk P w K mg base CX0 1 (a 1) (fd 1) ["bounds", "s"] (spLG K) := by
  refine T.F1.ok sc_least_growth (fun vs H Q E h => ?_) (fun cdv A outer s H vs Q E hr h => ?_)
  · obtain ⟨_, _, _, _, _, _, _, _, rfl, _⟩ := h; rfl
  · obtain ⟨P0, cs, p, a, b, c, d, k, rfl, B, m, q⟩ := h
    have hp := B.at_
    have dw := divw (j := b) (by have := B.a0; have := B.ab; omega) (by have := B.b1; omega)
    have a0 := B.a0
    have a1 : a ≤ 1000000000000 := Int.le_trans B.ab B.b1
    refine ⟨_, (pss_one (ps_ret (pe_un un_neg (pe_op op_fdivW (pe_op op_mul (pe_un un_neg (pv 1)) (pe_ix (ixT (K := K) rfl) (pv 0) pe_int (fun _ _ => rfl))) (pe_ix (ixT (K := K) rfl) (pv 0) pe_int (fun _ _ => rfl)))))), ?_⟩
    walk_at "go"
    unfold growI ceilI at q
    rw [← Int.neg_mul] at q
    exact q
def spOver (K : PySem.W.Frag) : Sp := fun vs H Q _ => ∃ (P : Hp) (cs : List Ch) (p : Addr) (a b c d k l : Int), vs = [.ref p, .int k, .int l] ∧ Bds K P p a b c d ∧ Mem P cs H ∧
  (l ≤ growI a b (spanI c d k) → Q .non H) ∧ (growI a b (spanI c d k) < l → ∀ t o P' H', Ex P P' → SqT K P' t [.int (spanI c d k), .int (spanI c d k * c / d), .int (growI a b (spanI c d k))] → Mem P' (pt o (.lst [.ref t]) :: cs) H' → Q (.ref o) H')
theorem ok_overrun (T : Txt K mg a c fd) : FnOk P w K mg base CX0 2 (a 2) (fd 2) ["bounds", "kept", "lease"] (spOver K) := by
  refine T.F2.ok sc_overrun (fun vs H Q E h => ?_) (fun cdv A outer s H vs Q E hr h => ?_)
  · obtain ⟨_, _, _, _, _, _, _, _, _, rfl, _⟩ := h; rfl
  · obtain ⟨P0, cs, p, a, b, c, d, k, l, rfl, B, m, q1, q2⟩ := h
    have hp := B.at_
    have dw := divw (j := d) B.d0 (by have := B.dc; have := B.c1; omega)
    have c0 : 0 < c := by have := B.d0; have := B.dc; omega
    have c1 := B.c1
    have G_least_span := ok_least_span (P := P) (w := w) (base := base) T
    have G_least_growth := ok_least_growth (P := P) (w := w) (base := base) T
    refine ⟨_, (pss_cons (ps_set (i := 3) sc_overrun.nd rfl (Or.inl rfl) (pe_call G_least_span hr rfl T.m0 T.F0.kp T.b0 .nil pass0 (pa_cons (pv 0) (pa_cons (pv 1) pa_nil))))
      (pss_cons (ps_if (pt_cmpR op_ge (pe_call G_least_growth hr rfl T.m1 T.F1.kp T.b1 .nil pass0 (pa_cons (pv 0) (pa_cons (pv 3) pa_nil))) (pv 2) (nomark _)) (pss_one (ps_ret pe_non)) pss_nil)
      (pss_one (ps_ret (pe_lst (pa_cons (pe_tup (pa_cons (pv 3) (pa_cons (pe_op op_fdivW (pe_op op_mul (pv 3) (pe_ix (ixT (K := K) rfl) (pv 0) pe_int (fun _ _ => rfl))) (pe_ix (ixT (K := K) rfl) (pv 0) pe_int (fun _ _ => rfl))) (pa_cons (pe_call G_least_growth hr rfl T.m1 T.F1.kp T.b1 .nil pass0 (pa_cons (pv 0) (pa_cons (pv 3) pa_nil))) pa_nil)))) pa_nil)))))), ?_⟩
    walk_at "go"
    refine ⟨P0, cs, p, a, b, c, d, k, rfl, B, m, ?_⟩
    walk_at "go"
    refine ⟨P0, cs, p, a, b, c, d, _, rfl, B, m, ?_⟩
    walk_at "go"
    walk_at "ite" <;> intro hc
    · walk_at "go"
      exact q1 hc
    · walk_at "go"
      refine ⟨P0, cs, p, a, b, c, d, _, rfl, B, m, ?_⟩
      walk_at "go"
      walk_at "newM"
      exact q2 (by omega) _ _ _ _ (by assumption) (by assumption) (by assumption)
def canI (a b c d l : Int) : Int := (l - 1) * b / a * c / d
theorem can_le {a b c d k l : Int} (ha : 0 < a) (hb : 0 < b) (hc : 0 < c) (hd : 0 < d) : k ≤ canI a b c d l ↔ growI a b (spanI c d k) < l := by
  unfold canI growI spanI
  have h1 : k ≤ (l - 1) * b / a * c / d ↔ k * d ≤ (l - 1) * b / a * c := Int.le_ediv_iff_mul_le hd
  have h2 : ceilI (k * d) c ≤ (l - 1) * b / a ↔ k * d ≤ (l - 1) * b / a * c := ceil_le hc
  have h3 : ceilI (k * d) c ≤ (l - 1) * b / a ↔ ceilI (k * d) c * a ≤ (l - 1) * b := Int.le_ediv_iff_mul_le ha
  have h4 : ceilI (ceilI (k * d) c * a) b ≤ l - 1 ↔ ceilI (k * d) c * a ≤ (l - 1) * b := ceil_le hb
  omega
theorem spanI_pos {c d k : Int} (hc : 0 < c) (hd : 0 < d) (hk : 0 < k) : 0 < spanI c d k := by
  have h := ceil_le (x := k * d) (z := 0) hc
  have := Int.mul_pos hk hd
  unfold spanI
  omega
theorem growI_pos {a b s : Int} (ha : 0 < a) (hb : 0 < b) (hs : 0 < s) : 0 < growI a b s := by
  have h := ceil_le (x := s * a) (z := 0) hb
  have := Int.mul_pos hs ha
  unfold growI
  omega
theorem growI_le {a b s : Int} (ab : a ≤ b) (hb : 0 < b) (hs : 0 ≤ s) : growI a b s ≤ s := by
  have h := ceil_le (x := s * a) (z := s) hb
  have := Int.mul_le_mul_of_nonneg_left ab hs
  unfold growI
  omega
theorem spanI_le {c d k : Int} (dc : d ≤ c) (hc : 0 < c) (hk : 0 ≤ k) : spanI c d k ≤ k := by
  have h := ceil_le (x := k * d) (z := k) hc
  have := Int.mul_le_mul_of_nonneg_left dc hk
  unfold spanI
  omega
/-- what overrun tells is so -/
theorem over_ok {a b c d k : Int} (ha : 0 < a) (ab : a ≤ b) (hd : 0 < d) (dc : d ≤ c) (hk : 0 < k) :
    spanI c d k * a ≤ spanI c d k * c / d * b ∧ spanI c d k * c / d * d ≤ spanI c d k * c ∧ spanI c d k * a ≤ growI a b (spanI c d k) * b ∧ growI a b (spanI c d k) * d ≤ spanI c d k * c ∧ k ≤ spanI c d k * c / d := by
  have s0 := spanI_pos (c := c) (by omega : 0 < c) hd hk
  have hb : 0 < b := by omega
  have g1 := growI_le (a := a) (b := b) (s := spanI c d k) ab hb (by omega)
  have e1 : growI a b (spanI c d k) ≤ growI a b (spanI c d k) ↔ spanI c d k * a ≤ growI a b (spanI c d k) * b := ceil_le hb
  have e2 : spanI c d k ≤ spanI c d k ↔ k * d ≤ spanI c d k * c := ceil_le (by omega)
  have e3 : k ≤ spanI c d k * c / d ↔ k * d ≤ spanI c d k * c := Int.le_ediv_iff_mul_le hd
  have e4 : spanI c d k ≤ spanI c d k * c / d ↔ spanI c d k * d ≤ spanI c d k * c := Int.le_ediv_iff_mul_le hd
  have e5 : spanI c d k * d ≤ spanI c d k * c := Int.mul_le_mul_of_nonneg_left dc (by omega)
  have e6 : spanI c d k * a ≤ spanI c d k * b := Int.mul_le_mul_of_nonneg_left ab (by omega)
  have e7 : spanI c d k * b ≤ spanI c d k * c / d * b := Int.mul_le_mul_of_nonneg_right (by omega) (by omega)
  have e8 : growI a b (spanI c d k) * d ≤ spanI c d k * d := Int.mul_le_mul_of_nonneg_right g1 (by omega)
  exact ⟨by omega, Int.ediv_mul_le _ (by omega), by omega, by omega, by omega⟩

def spCan (K : PySem.W.Frag) : Sp := fun vs H Q _ => ∃ (P : Hp) (cs : List Ch) (p : Addr) (a b c d l : Int), vs = [.ref p, .int l] ∧ Bds K P p a b c d ∧ Mem P cs H ∧ Q (.int (canI a b c d l)) H
theorem ok_law_can (T : Txt K mg a c fd) : FnOk P w K mg base CX0 2 (a 9) (fd 9) ["_law_bounds_here", "_law_lease"] (spCan K) := by
  refine T.F9.ok sc_law_can (fun vs H Q E h => ?_) (fun cdv A outer s H vs Q E hr h => ?_)
  · obtain ⟨_, _, _, _, _, _, _, _, rfl, _⟩ := h; rfl
  · obtain ⟨P0, cs, p, a, b, c, d, l, rfl, B, m, q⟩ := h
    have hp := B.at_
    have dw := divw (j := a) B.a0 (by have := B.ab; have := B.b1; omega)
    have b0 : 0 < b := by have := B.a0; have := B.ab; omega
    have b1 := B.b1
    have G_law_most := ok_law_most (P := P) (w := w) (base := base) T
    refine ⟨_, (pss_one (ps_ret (pe_call G_law_most hr rfl T.m8 T.F8.kp T.b8 .nil pass0 (pa_cons (pv 0) (pa_cons (pe_op op_fdivW (pe_op op_mul (pe_op op_sub (pv 1) pe_int) (pe_ix (ixT (K := K) rfl) (pv 0) pe_int (fun _ _ => rfl))) (pe_ix (ixT (K := K) rfl) (pv 0) pe_int (fun _ _ => rfl))) pa_nil))))), ?_⟩
    walk_at "go"
    refine ⟨P0, cs, p, a, b, c, d, _, rfl, hp, B.d0, B.dc, B.c1, m, ?_⟩
    walk_at "go"
    exact q

/-- triples of ints at places -/
inductive Trip (K : PySem.W.Frag) (P : Hp) : List V → List (Int × Int × Int) → Prop
  | nil : Trip K P [] []
  | cons {t : Addr} {s g h : Int} {vs : List V} {ts : List (Int × Int × Int)} : SqT K P t [.int s, .int g, .int h] → Trip K P vs ts → Trip K P (.ref t :: vs) ((s, g, h) :: ts)
theorem Trip.up {K : PySem.W.Frag} {P P' : Hp} (e : Ex P P') : ∀ {vs : List V} {ts : List (Int × Int × Int)}, Trip K P vs ts → Trip K P' vs ts
  | _, _, .nil => .nil
  | _, _, .cons a b => .cons (ex_t e a) (Trip.up e b)
theorem Trip.len {K : PySem.W.Frag} {P : Hp} : ∀ {vs : List V} {ts : List (Int × Int × Int)}, Trip K P vs ts → vs.length = ts.length
  | _, _, .nil => rfl
  | _, _, .cons _ b => by rw [List.length_cons, List.length_cons, Trip.len b]
theorem Trip.get {K : PySem.W.Frag} {P : Hp} : ∀ {vs : List V} {ts : List (Int × Int × Int)} {i : Nat} {x : V}, Trip K P vs ts → vs[i]? = some x → ∃ t s g h, x = .ref t ∧ SqT K P t [.int s, .int g, .int h] ∧ ts[i]? = some (s, g, h)
  | _, _, _, _, .nil, e => by simp at e
  | _, _, 0, _, .cons a b, e => by
    simp at e
    exact ⟨_, _, _, _, e.symm, a, rfl⟩
  | _, _, i + 1, x, .cons a b, e => by
    obtain ⟨t, s, g, h, z⟩ := Trip.get (i := i) (x := x) b (by simpa using e)
    exact ⟨t, s, g, h, by simpa using z⟩
def fitT (a b c d : Int) (t : Int × Int × Int) : Bool := withinI a b c d t.1 t.2.1 && withinI a b c d t.1 t.2.2
def showsI (a b c d k l : Int) (ts : List (Int × Int × Int)) : Bool := ts.all (fitT a b c d) && (decide (k ≤ (ts.map (·.2.1)).sum) && decide ((ts.map (·.2.2)).sum < l))
theorem take_succ_map {α β : Type} (f : α → β) {ts : List α} {i : Nat} {t : α} (h : ts[i]? = some t) : (ts.take (i + 1)).map f = (ts.take i).map f ++ [f t] := by
  rw [List.take_add_one, h]
  simp

theorem fit_eq {a b c d : Int} (s g h : Int) (hb : 0 < b) (hd : 0 < d) : fitT a b c d (s, g, h) = ((decide (leastI a b s ≤ g) && decide (g ≤ mostI c d s)) && (decide (leastI a b s ≤ h) && decide (h ≤ mostI c d s))) := by
  unfold fitT
  rw [withinI_eq s g hb hd, withinI_eq s h hb hd]
def spFits (K : PySem.W.Frag) : Sp := fun vs H Q _ => ∃ (P : Hp) (cs : List Ch) (p o : Addr) (a b c d k l : Int) (xs : List V) (ts : List (Int × Int × Int)), vs = [.ref p, .int k, .int l, .ref o] ∧ Bds K P p a b c d ∧ Trip K P xs ts ∧ ts.length ≤ 1000 ∧ Mem P (pt o (.lst xs) :: cs) H ∧
  ∀ P' H', Ex P P' → Mem P' (pt o (.lst xs) :: cs) H' → Q (.bl (showsI a b c d k l ts)) H'
theorem ok_law_fits (T : Txt K mg a c fd) : FnOk P w K mg base CX0 2 (a 10) (fd 10) ["_law_bounds_here", "_law_kept", "_law_lease", "_law_pieces"] (spFits K) := by
  refine T.F10.ok sc_law_fits (fun vs H Q E h => ?_) (fun cdv A outer s H vs Q E hr h => ?_)
  · obtain ⟨_, _, _, _, _, _, _, _, _, _, _, _, rfl, _⟩ := h; rfl
  · obtain ⟨P0, cs, p, o, a, b, c, d, k, l, xs, ts, rfl, B, hT, hlen, m, q⟩ := h
    have hxl := hT.len
    have b0 : 0 < b := by have := B.a0; have := B.ab; omega
    have G_law_least := ok_law_least (P := P) (w := w) (base := base) T
    have G_law_most := ok_law_most (P := P) (w := w) (base := base) T
    refine ⟨_, (pss_cons (ps_for PassesOwn.never rfl (piL (K := K) rfl (pv 3)) (pgT (K := K) rfl rfl (pgs_cons (pg_name (i := 4) sc_law_fits.nd rfl (Or.inl rfl)) (pgs_cons (pg_name (i := 5) sc_law_fits.nd rfl (Or.inl rfl)) (pgs_cons (pg_name (i := 6) sc_law_fits.nd rfl (Or.inl rfl)) pgs_nil))))
      (pss_one (ps_for PassesOwn.never rfl (piT (K := K) rfl (pe_tup (pa_cons (pv 5) (pa_cons (pv 6) pa_nil)))) (pg_name (i := 7) sc_law_fits.nd rfl (Or.inl rfl))
      (pss_one (ps_if (PW.pt (pw_or (pt_cmpR op_lt (pv 7) (pe_call G_law_least hr rfl T.m7 T.F7.kp T.b7 .nil pass0 (pa_cons (pv 0) (pa_cons (pv 4) pa_nil))) (nomark _)) (pw_or1 (pt_cmpR op_gt (pv 7) (pe_call G_law_most hr rfl T.m8 T.F8.kp T.b8 .nil pass0 (pa_cons (pv 0) (pa_cons (pv 4) pa_nil))) (nomark _))))) (pss_one (ps_ret pe_bl)) pss_nil)))))
      (pss_one (ps_ret (pe_and (pe_cmpR op_ge (pe_callB (sumK (K := K) rfl rfl) (by rfl) T.g_sum (by decide +kernel) (pa_cons (pe_lc (own := [("_law_piece", 8)]) (tt := tYes) (by rfl) sc_law_fits.nd (piL (K := K) rfl (pv 3)) (blkOk_by (own := [("_law_piece", 8)]) (N := N_law_fits) (sc := defScope s_law_fits) (by decide +kernel)) (fun _ _ _ _ _ => (pg_name (i := 8) sc_law_fits.nd rfl (Or.inl rfl))) (fun _ _ _ _ _ => pts_nil) (fun _ _ _ _ _ => (pe_ix (ixT (K := K) rfl) (pv 8) pe_int (fun _ _ => rfl)))) pa_nil)) (pv 1) (nomark _)) (pe_one (pe_cmpR op_lt (pe_callB (sumK (K := K) rfl rfl) (by rfl) T.g_sum (by decide +kernel) (pa_cons (pe_lc (own := [("_law_piece", 8)]) (tt := tYes) (by rfl) sc_law_fits.nd (piL (K := K) rfl (pv 3)) (blkOk_by (own := [("_law_piece", 8)]) (N := N_law_fits) (sc := defScope s_law_fits) (by decide +kernel)) (fun _ _ _ _ _ => (pg_name (i := 8) sc_law_fits.nd rfl (Or.inl rfl))) (fun _ _ _ _ _ => pts_nil) (fun _ _ _ _ _ => (pe_ix (ixT (K := K) rfl) (pv 8) pe_int (fun _ _ => rfl)))) pa_nil)) (pv 2) (nomark _))))))), ?_⟩
    walk_at "go"
    refine l_list (K := K) (xs := xs) (SqL.of m.rd0) (fun i σ H' => (∃ P', Ex P0 P' ∧ Mem P' (pt o (.lst xs) :: cs) H') ∧ (ts.take i).all (fitT a b c d) = true ∧ ∃ x1 x2 x3 x4 x5, σ = [some (.ref p), some (.int k), some (.int l), some (.ref o), x1, x2, x3, x4, x5])
      ⟨⟨P0, Ex.refl _, m⟩, rfl, _, _, _, _, _, rfl⟩ (fun i σ H' _ ⟨⟨P', e', m'⟩, _⟩ => SqL.of m'.rd0) ?_ ?_
    · rintro i x σ H' hx ⟨⟨P', e', m'⟩, hall, x1, x2, x3, x4, x5, rfl⟩
      obtain ⟨t, s, g, h, rfl, ht, hti⟩ := hT.get hx
      have ht := ex_t e' ht
      have B := B.up e'
      have hnext : (ts.take (i + 1)).all (fitT a b c d) = fitT a b c d (s, g, h) := by
        rw [List.take_add_one, hti, List.all_append, hall]
        simp
      have stop : fitT a b c d (s, g, h) = false → showsI a b c d k l ts = false := fun z => by
        unfold showsI
        have hall : ts.all (fitT a b c d) = false := by
          rw [List.all_eq_false]
          exact ⟨_, List.mem_of_getElem? hti, by simp [z]⟩
        rw [hall]
        rfl
      have fe := fit_eq (a := a) (b := b) (c := c) (d := d) s g h b0 B.d0
      walk_at "go"
      rename_i u P2 H2 m2 e2 hu
      have B2 := B.up e2
      refine l_tup (K := K) (xs := [.int g, .int h]) (by walk_at "sq") (fun j σ H' => Mem P2 (pt o (.lst xs) :: cs) H' ∧ (1 ≤ j → leastI a b s ≤ g ∧ g ≤ mostI c d s) ∧ (2 ≤ j → leastI a b s ≤ h ∧ h ≤ mostI c d s) ∧ ∃ x4 x5, σ = [some (.ref p), some (.int k), some (.int l), some (.ref o), some (.int s), some (.int g), some (.int h), x4, x5])
        ⟨m2, fun z => absurd z (by decide), fun z => absurd z (by decide), _, _, rfl⟩ (fun j σ H' _ z => ex_t z.1.ex hu) ?_ ?_
      · rintro j y σ H3 hy ⟨m3, hg, hh, x4, x5, rfl⟩
        obtain ⟨r, rfl, hr'⟩ : ∃ r : Int, y = .int r ∧ ((j = 0 ∧ r = g) ∨ (j = 1 ∧ r = h)) := by
          match j, hy with
          | 0, hy => exact ⟨g, by simpa using hy.symm, .inl ⟨rfl, rfl⟩⟩
          | 1, hy => exact ⟨h, by simpa using hy.symm, .inr ⟨rfl, rfl⟩⟩
          | j + 2, hy => simp at hy
        have bad : ¬ (leastI a b s ≤ r ∧ r ≤ mostI c d s) → showsI a b c d k l ts = false := fun z => stop (by
          rw [fe]
          rcases hr' with ⟨_, rfl⟩ | ⟨_, rfl⟩
          · rw [← Bool.decide_and, decide_eq_false z]; rfl
          · rw [← Bool.decide_and (p := leastI a b s ≤ r), decide_eq_false z, Bool.and_false])
        walk_at "go"
        refine ⟨P2, _, p, a, b, c, d, s, rfl, B2.at_, B2.a0, B2.ab, B2.b1, m3, ?_⟩
        walk_at "go"
        walk_at "ite" <;> intro hc1
        · walk_at "go"
          have := q P2 H3 (e'.trans e2) m3
          rw [bad (by omega)] at this
          exact this
        · walk_at "go"
          refine ⟨P2, _, p, a, b, c, d, s, rfl, B2.at_, B2.d0, B2.dc, B2.c1, m3, ?_⟩
          walk_at "go"
          walk_at "ite" <;> intro hc2
          · walk_at "go"
            have := q P2 H3 (e'.trans e2) m3
            rw [bad (by omega)] at this
            exact this
          · walk_at "go"
            refine ⟨m3, fun z => ?_, fun z => ?_, _, _, rfl⟩
            · rcases hr' with ⟨_, rfl⟩ | ⟨rfl, rfl⟩
              · omega
              · exact hg (by omega)
            · rcases hr' with ⟨rfl, rfl⟩ | ⟨rfl, rfl⟩
              · omega
              · omega
      · rintro σ H3 ⟨m3, hg, hh, x4, x5, rfl⟩
        have hg := hg (by show 1 ≤ 2; decide)
        have hh := hh (by show 2 ≤ 2; decide)
        exact ⟨⟨P2, e'.trans e2, m3⟩, by rw [hnext, fe]; simp [hg, hh], _, _, _, _, _, rfl⟩
    · rintro σ H' ⟨⟨P', e', m'⟩, hall, x1, x2, x3, x4, x5, rfl⟩
      rw [hxl, List.take_length] at hall
      have hT := hT.up e'
      walk_at "go"
      refine l_lc (K := K) (xs := xs) m' (fun P' H' c' e' mm => SqL.of (mm.rd (.s .z))) (fun i acc P' => acc = ((ts.take i).map (·.2.1)).map V.int) rfl ?_ ?_
      · rintro i x P' H2 acc D hx e2 m2 rfl Kt Kf ht hf
        obtain ⟨t, s, g, h, rfl, hh, hti⟩ := hT.get hx
        have hh := ex_t e2 hh
        walk_at "go"
        refine ⟨rfl, ?_⟩
        walk_at "go"
        refine ht _ P' _ (Ex.refl _) m2 (by simp; omega) ?_
        rw [take_succ_map _ hti, List.map_append]; rfl
      · rintro D P2 H2 acc e2 m2 rfl
        walk_at "go"
        rw [hxl, List.take_length] at m2
        refine i_sum (SqL.of m2.rd0) ?_
        walk_at "go"
        have hsum : showsI a b c d k l ts = (decide (k ≤ (ts.map (·.2.1)).sum) && decide ((ts.map (·.2.2)).sum < l)) := by
          unfold showsI
          rw [hall, Bool.true_and]
        rw [hsum] at q
        walk_at "ite" <;> intro hc
        · walk_at "go"
          refine l_lc (K := K) (xs := xs) m2.drop (fun P' H' c' e' mm => SqL.of (mm.rd (.s .z))) (fun i acc P' => acc = ((ts.take i).map (·.2.2)).map V.int) rfl ?_ ?_
          · rintro i x P3 H3 acc D3 hx e3 m3 rfl Kt Kf ht hf
            obtain ⟨t, s, g, h, rfl, hh, hti⟩ := hT.get hx
            have hh := ex_t (e2.trans e3) hh
            walk_at "go"
            refine ⟨rfl, ?_⟩
            walk_at "go"
            refine ht _ P3 _ (Ex.refl _) m3 (by simp; omega) ?_
            rw [take_succ_map _ hti, List.map_append]; rfl
          · rintro D3 P3 H3 acc e3 m3 rfl
            walk_at "go"
            rw [hxl, List.take_length] at m3
            refine i_sum (SqL.of m3.rd0) ?_
            walk_at "go"
            have := q P3 H3 (e'.trans (e2.trans e3)) m3.drop
            rw [decide_eq_true hc] at this
            exact this
        · have := q P2 H2 (e'.trans e2) m2.drop
          rw [decide_eq_false hc] at this
          exact this

theorem Trip.dp {K : PySem.W.Frag} {P : Hp} : ∀ {vs : List V} {ts : List (Int × Int × Int)}, Trip K P vs ts → DpAll K P vs (ts.map fun t => .tuple [.int t.1, .int t.2.1, .int t.2.2])
  | _, _, .nil => .nil
  | _, _, .cons a b => .cons (.tup a (.cons (.int _) (.cons (.int _) (.cons (.int _) .nil)))) (Trip.dp b)
def dTrip (ts : List (Int × Int × Int)) : PyData := .list (ts.map fun t => .tuple [.int t.1, .int t.2.1, .int t.2.2])
theorem dTrip_sh (ts : List (Int × Int × Int)) : Sh 2 (dTrip ts) := .lst fun d hd => by
  obtain ⟨t, _, rfl⟩ := List.mem_map.mp hd
  refine .tup fun e he => ?_
  simp only [List.mem_cons, List.not_mem_nil, or_false] at he
  rcases he with rfl | rfl | rfl <;> exact .int _

def spSame (K : PySem.W.Frag) : Sp := fun vs H Q _ => ∃ (x y : Addr) (d : PyData) (n L : Nat) (k : Nat), vs = [.ref x, .ref y] ∧ Dp K H (.ref x) d ∧ Dp K H (.ref y) d ∧ Sh k d ∧ k ≤ 60 ∧ Shw n L d ∧ n ≤ 60 ∧ L ≤ 16000000 ∧ Q (.bl true) H
theorem ok_law_same (T : Txt K mg a c fd) : FnOkG P w K mg base CX0 1 (a 11) (fd 11) ["_law_found", "_law_due"] (spSame K) := by
  refine fnG T.F11 sc_law_same (fun vs H Q E h => ?_) (fun cdv A outer s H vs Q E hr hcm h => ?_)
  · obtain ⟨_, _, _, _, _, _, rfl, _⟩ := h; rfl
  · obtain ⟨x, y, d, n, L, k, rfl, dx, dy, hsh, hk, hsw, hn, hL, q⟩ := h
    refine ⟨_, (pss_one (ps_ret (pe_and (pe_cmpR (eqD (K := K) rfl hr.units) (pv 0) (pv 1) (nomark _)) (pe_one (pe_cmpR op_eq (pe_callTy (strD (K := K) rfl hcm hr.units) (by rfl) T.g_str (by decide +kernel) (pa_cons (pv 0) pa_nil)) (pe_callTy (strD (K := K) rfl hcm hr.units) (by rfl) T.g_str (by decide +kernel) (pa_cons (pv 1) pa_nil)) (nomark _)))))), ?_⟩
    walk_at "go"
    refine i_eqDt dx dy (hsh.ok (by omega)) (hsh.ok (by omega)) ?_
    rw [eqv_self hsh]
    walk_at "go"
    refine i_strD dx hsw hn hL ?_
    walk_at "go"
    refine i_strD dy hsw hn hL ?_
    walk_at "go"
    rw [decide_eq_true rfl]
    exact q
theorem getV {x : V} : ∀ {i : Nat} {ns : List Int}, (ns.map V.int)[i]? = some x → ∃ z, x = .int z ∧ z ∈ ns
  | i, ns, h => by
    rw [List.getElem?_map] at h
    cases e : ns[i]? with
    | none => rw [e] at h; cases h
    | some z => rw [e] at h; exact ⟨z, (Option.some.inj h).symm, List.mem_of_getElem? e⟩
def spRight (K : PySem.W.Frag) : Sp := fun vs H Q _ => ∃ (P : Hp) (cs : List Ch) (p : Addr) (a b c d k l : Int), Bds K P p a b c d ∧
  ((vs = [.non, .ref p, .int k, .int l] ∧ canI a b c d l < k ∧ Mem P cs H ∧ Q (.bl true) H) ∨
   (∃ o t s g h, vs = [.ref o, .ref p, .int k, .int l] ∧ k ≤ canI a b c d l ∧ SqT K P t [.int s, .int g, .int h] ∧ 0 ≤ s ∧ 0 ≤ g ∧ 0 ≤ h ∧ showsI a b c d k l [(s, g, h)] = true ∧ Mem P (pt o (.lst [.ref t]) :: cs) H ∧
     ∀ P' H', Ex P P' → Mem P' (pt o (.lst [.ref t]) :: cs) H' → Q (.bl true) H'))
theorem ok_law_right (T : Txt K mg a c fd) : FnOk P w K mg base CX0 3 (a 12) (fd 12) ["_law_found", "_law_bounds_here", "_law_kept", "_law_lease"] (spRight K) := by
  refine T.F12.ok sc_law_right (fun vs H Q E h => ?_) (fun cdv A outer s H vs Q E hr h => ?_)
  · obtain ⟨_, _, _, _, _, _, _, _, _, _, h⟩ := h
    rcases h with ⟨rfl, _⟩ | ⟨_, _, _, _, _, rfl, _⟩ <;> rfl
  · obtain ⟨P0, cs, p, a, b, c, d, k, l, B, h⟩ := h
    have G_law_fits := ok_law_fits (P := P) (w := w) (base := base) T
    have G_law_can := ok_law_can (P := P) (w := w) (base := base) T
    refine ⟨_, (pss_cons (ps_if (pt_cmpR op_lt (pe_call G_law_can hr rfl T.m9 T.F9.kp T.b9 .nil pass0 (pa_cons (pv 1) (pa_cons (pv 3) pa_nil))) (pv 2) (nomark _)) (pss_one (ps_ret (pe_cmpR op_isN1 (pv 0) pe_non (nomark _)))) pss_nil)
      (pss_cons (ps_if (pt_not (pt_val (pe_callB (isiK (K := K) rfl) (by rfl) T.g_isinstance (by decide +kernel) (pa_cons (pv 0) (pa_cons (pe_bltn (v := .ty "list") (by rfl) T.g_list (by decide +kernel) rfl) pa_nil))))) (pss_one (ps_ret pe_bl)) pss_nil)
      (pss_cons (ps_for PassesOwn.never rfl (piL (K := K) rfl (pv 0)) (pg_name (i := 4) sc_law_right.nd rfl (Or.inl rfl))
      (pss_cons (ps_if (PW.pt (pw_or (pt_not (pt_val (pe_callB (isiK (K := K) rfl) (by rfl) T.g_isinstance (by decide +kernel) (pa_cons (pv 4) (pa_cons (pe_bltn (v := .ty "tuple") (by rfl) T.g_tuple (by decide +kernel) rfl) pa_nil))))) (pw_or1 (pt_cmpR op_ne (pe_callB (lenQ (K := K) rfl) (by rfl) T.g_len (by decide +kernel) (pa_cons (pv 4) pa_nil)) pe_int (nomark _))))) (pss_one (ps_ret pe_bl)) pss_nil)
      (pss_one (ps_if (pt_cmpR (neD (K := K) rfl hr.units) (pe_lc (own := [("_law_one", 5)]) (by rfl) sc_law_right.nd (piT (K := K) rfl (pv 4)) (blkOk_by (own := [("_law_one", 5)]) (N := N_law_right) (sc := defScope s_law_right) (by decide +kernel)) (fun _ _ _ _ _ => (pg_name (i := 5) sc_law_right.nd rfl (Or.inl rfl))) (fun _ _ _ _ _ => (pts_one (PW.pt (pw_or (pt_not (pt_val (pe_callB (isiK (K := K) rfl) (by rfl) T.g_isinstance (by decide +kernel) (pa_cons (pv 5) (pa_cons (pe_bltn (v := .ty "int") (by rfl) T.g_int (by decide +kernel) rfl) pa_nil))))) (pw_or (pt_val (pe_callB (isiK (K := K) rfl) (by rfl) T.g_isinstance (by decide +kernel) (pa_cons (pv 5) (pa_cons (pe_bltn (v := .ty "bool") (by rfl) T.g_bool (by decide +kernel) rfl) pa_nil)))) (pw_or1 (pt_cmpR op_lt (pv 5) pe_int (nomark _)))))))) (fun _ _ _ _ _ => (pv 5))) (pe_lst pa_nil) (nomark _)) (pss_one (ps_ret pe_bl)) pss_nil))))
      (pss_one (ps_ret (pe_call G_law_fits hr rfl T.m10 T.F10.kp T.b10 .nil pass0 (pa_cons (pv 1) (pa_cons (pv 2) (pa_cons (pv 3) (pa_cons (pv 0) pa_nil)))))))))), ?_⟩
    rcases h with ⟨rfl, hc, m, q⟩ | ⟨o, t, s, g, h, rfl, hc, ht, s0, g0, h0, hyes, m, q⟩
    · walk_at "go"
      refine ⟨P0, _, p, a, b, c, d, l, rfl, B, m, ?_⟩
      walk_at "go"
      refine i_dec (fun _ => ?_) (fun z => absurd hc z)
      walk_at "go"
      exact q
    · walk_at "go"
      refine ⟨P0, _, p, a, b, c, d, l, rfl, B, m, ?_⟩
      walk_at "go"
      refine i_dec (fun z => absurd z (by omega)) (fun _ => ?_)
      walk_at "go"
      refine l_list (K := K) (xs := [.ref t]) (SqL.of m.rd0) (fun i σ H' => (∃ P', Ex P0 P' ∧ Mem P' (pt o (.lst [.ref t]) :: cs) H') ∧ ∃ x1 x2, σ = [some (.ref o), some (.ref p), some (.int k), some (.int l), x1, x2])
        ⟨⟨P0, Ex.refl _, m⟩, _, _, rfl⟩ (fun i σ H' _ ⟨⟨P', e', m'⟩, _⟩ => SqL.of m'.rd0) ?_ ?_
      · rintro i x σ H' hx ⟨⟨P', e', m'⟩, x1, x2, rfl⟩
        obtain rfl : x = .ref t := by
          match i, hx with
          | 0, hx => simpa using hx.symm
          | i + 1, hx => simp at hx
        have ht := ex_t e' ht
        walk_at "go"
        refine i_ndec (fun z => absurd rfl z) (fun _ => ?_)
        walk_at "go"
        refine l_lcT (K := K) (xs := [s, g, h].map V.int) m' ht (fun i acc P' => acc = []) rfl ?_ ?_
        · rintro i x P2 H2 acc D hx e2 m2 rfl Kt Kf hkt hkf
          obtain ⟨z, rfl, hz⟩ := getV hx
          have z0 : 0 ≤ z := by
            simp only [List.mem_cons, List.not_mem_nil, or_false] at hz
            rcases hz with rfl | rfl | rfl <;> assumption
          walk_at "go"
          refine ⟨rfl, ?_⟩
          walk_at "go"
          refine i_dec (fun z => absurd z (by omega)) (fun _ => ?_)
          exact hkf _ _ (Ex.refl _) m2 rfl
        · rintro D P2 H2 acc e2 m2 rfl
          walk_at "go"
          walk_at "newM"
          rename_i D2 H3 m3
          walk_at "go"
          refine i_neDt (d := .list []) (e := .list []) (.lst (SqL.of (m3.rd (.s .z))) .nil) (.lst (SqL.of m3.rd0) .nil) (by decide +kernel) (by decide +kernel) ?_
          refine i_blI ?_
          rw [show PyData.eqv (.list []) (.list []) = true by decide +kernel]
          walk_at "go"
          exact ⟨⟨P2, e'.trans e2, m3.drop.drop⟩, _, _, rfl⟩
      · rintro σ H' ⟨⟨P', e', m'⟩, x1, x2, rfl⟩
        walk_at "go"
        refine ⟨P', cs, p, o, a, b, c, d, k, l, _, [(s, g, h)], rfl, B.up e', .cons (ex_t e' ht) .nil, by show 1 ≤ 1000; decide, m', fun P2 H2 e2 m2 => ?_⟩
        walk_at "go"
        rw [hyes]
        exact q _ _ (e'.trans e2) m2
def spLaw (K : PySem.W.Frag) : Sp := fun vs H Q _ => ∃ (a : Addr) (ns : List Int), vs = [.ref a] ∧ SqL K H a (ns.map V.int) ∧ ns.length ≤ 63 ∧ ∀ H', Q (.bl true) H'
theorem pow_up {i : Int} {n : Nat} (h : 0 ≤ i) (h2 : i < (2 : Int) ^ n) : i.natAbs < 2 ^ n := by
  have : ((i.natAbs : Nat) : Int) < ((2 ^ n : Nat) : Int) := by
    rw [Int.natAbs_of_nonneg h]
    exact_mod_cast h2
  exact_mod_cast this
theorem ok_law (T : Txt K mg a c fd) : FnOkG P w K mg base CX0 4 (a 13) (fd 13) ["_law_script"] (spLaw K) := by
  refine fnG T.F13 sc_law (fun vs H Q E h => ?_) (fun cdv A outer s H vs Q E hr hcm h => ?_)
  · obtain ⟨_, _, rfl, _⟩ := h; rfl
  · obtain ⟨ad, ns, rfl, hS, hlen, q⟩ := h
    have m0 : Mem H [] H := Mem.all
    have hcl : (cutV (ns.map V.int) none (some 40)).length ≤ 63 := Nat.le_trans cutV_len (by rw [List.length_map]; exact hlen)
    have G_law_begin := ok_law_begin (P := P) (w := w) (base := base) T
    have G_law_bounds := ok_law_bounds (P := P) (w := w) (base := base) T
    have G_law_can := ok_law_can (P := P) (w := w) (base := base) T
    have G_overrun := ok_overrun (P := P) (w := w) (base := base) T
    have G_law_next := ok_law_next (P := P) (w := w) (base := base) T
    have G_law_pick := ok_law_pick (P := P) (w := w) (base := base) T
    have G_law_right := ok_law_right (P := P) (w := w) (base := base) T
    have G_law_same := ok_law_same (P := P) (w := w) (base := base) T
    refine ⟨_, (pss_cons (ps_for PassesOwn.never rfl (piE (K := K) rfl (by rfl) T.g_enumerate (pa_cons (pe_op op_cat (pe_slice (slL (K := K) rfl) (pv 0) po_none (po_some pe_int)) (pe_lst (pa_cons pe_int pa_nil))) pa_nil)) (pgT (K := K) rfl rfl (pgs_cons (pg_name (i := 1) sc_law.nd rfl (Or.inl rfl)) (pgs_cons (pg_name (i := 2) sc_law.nd rfl (Or.inl rfl)) pgs_nil)))
      (pss_cons (ps_set (i := 3) sc_law.nd rfl (Or.inl rfl) (pe_call G_law_begin (hr.mono (by decide)) rfl T.m3 T.F3.kp T.b3 .nil pass0 (pa_cons (pv 2) (pa_cons (pv 1) pa_nil))))
      (pss_cons (ps_set (i := 4) sc_law.nd rfl (Or.inl rfl) (pe_call G_law_bounds hr rfl T.m6 T.F6.kp T.b6 .nil pass0 (pa_cons (pv 3) pa_nil)))
      (pss_cons (ps_set (i := 5) sc_law.nd rfl (Or.inl rfl) (pe_op op_add pe_int (pe_call G_law_next (hr.mono (by decide)) rfl T.m4 T.F4.kp T.b4 .nil pass0 (pa_cons (pv 3) (pa_cons (pe_call G_law_pick (hr.mono (by decide)) rfl T.m5 T.F5.kp T.b5 .nil pass0 (pa_cons (pv 3) (pa_cons (pe_lst (pa_cons pe_int (pa_cons pe_int (pa_cons (pe_op op_pow pe_int pe_int) pa_nil)))) pa_nil))) pa_nil)))))
      (pss_cons (ps_set (i := 6) sc_law.nd rfl (Or.inl rfl) (pe_call G_law_can (hr.mono (by decide)) rfl T.m9 T.F9.kp T.b9 .nil pass0 (pa_cons (pv 4) (pa_cons (pv 5) pa_nil))))
      (pss_cons (ps_set (i := 7) sc_law.nd rfl (Or.inl rfl) (pe_callB (mx2 rfl) (by rfl) T.g_max (by decide +kernel) (pa_cons pe_int (pa_cons (pe_call G_law_pick (hr.mono (by decide)) rfl T.m5 T.F5.kp T.b5 .nil pass0 (pa_cons (pv 3) (pa_cons (pe_lst (pa_cons (pe_op op_sub (pv 6) pe_int) (pa_cons (pv 6) (pa_cons (pe_op op_add (pv 6) pe_int) (pa_cons (pe_op op_add (pv 6) pe_int) (pa_cons (pe_op op_add pe_int (pe_call G_law_next (hr.mono (by decide)) rfl T.m4 T.F4.kp T.b4 .nil pass0 (pa_cons (pv 3) (pa_cons (pe_op op_pow pe_int pe_int) pa_nil)))) pa_nil)))))) pa_nil))) pa_nil))))
      (pss_cons (ps_set (i := 8) sc_law.nd rfl (Or.inl rfl) (pe_call G_overrun (hr.mono (by decide)) rfl T.m2 T.F2.kp T.b2 .nil pass0 (pa_cons (pv 4) (pa_cons (pv 7) (pa_cons (pv 5) pa_nil)))))
      (pss_cons (ps_if (pt_not (pt_val (pe_call G_law_right hr rfl T.m12 T.F12.kp T.b12 .nil pass0 (pa_cons (pv 8) (pa_cons (pv 4) (pa_cons (pv 7) (pa_cons (pv 5) pa_nil))))))) (pss_one (ps_ret pe_bl)) pss_nil)
      (pss_one (ps_if (pt_cmpR op_notN1 (pv 8) pe_non (nomark _)) (pss_cons (ps_set (i := 9) sc_law.nd rfl (Or.inl rfl) (pe_callTy (listOf (K := K) rfl) (by rfl) T.g_list (by decide +kernel) (pa_cons (pv 8) pa_nil)))
      (pss_cons (ps_expr (peM (K := K) rfl PySem.F.plainAttrs_list PySem.F.slot_list_append PySem.F.type_list_append mt_append (pv 8) (pa_cons pe_non pa_nil)))
      (pss_one (ps_if (pt_not (pt_val (peG G_law_same hcm (hr.mono (by decide)) rfl T.m11 T.F11.kp T.b11 .nil pass0 (pa_cons (pe_call G_overrun (hr.mono (by decide)) rfl T.m2 T.F2.kp T.b2 .nil pass0 (pa_cons (pv 4) (pa_cons (pv 7) (pa_cons (pv 5) pa_nil)))) (pa_cons (pv 9) pa_nil))))) (pss_one (ps_ret pe_bl)) pss_nil)))) pss_nil))))))))))
      (pss_one (ps_ret pe_bl))), ?_⟩
    walk_at "go"
    walk_at "newM"
    walk_at "go"
    walk_at "newM"
    walk_at "go"
    walk_at "newL"
    rename_i pS P1 H1 m1 e1 hS1
    walk_at "go"
    refine l_enum (K := K) (SqL_of_mem m1 hS1) (fun i σ H' => ∃ P', Ex P1 P' ∧ Mem P' [] H' ∧ ∃ x1 x2 x3 x4 x5 x6 x7 x8 x9, σ = [some (.ref ad), x1, x2, x3, x4, x5, x6, x7, x8, x9])
      ⟨P1, Ex.refl _, Mem.per m1 .nil, _, _, _, _, _, _, _, _, _, rfl⟩ (fun i σ H' _ ⟨P', e', m', _⟩ => ex_l (e'.trans m'.ex) hS1) ?_ (fun σ H' _ => ?_)
    · rintro i x σ H' T hx ⟨P', e', m', x1, x2, x3, x4, x5, x6, x7, x8, x9, rfl⟩ hT
      obtain ⟨z, rfl⟩ : ∃ z : Int, x = .int z := by
        have hm := List.mem_of_getElem? hx
        rcases List.mem_append.mp hm with h | h
        · obtain ⟨z, _, rfl⟩ := List.mem_map.mp (cutV_mem h); exact ⟨z, rfl⟩
        · rw [List.mem_singleton] at h; exact ⟨9, h⟩
      obtain ⟨P2, m2, e2, hT2⟩ := Mem.enum (K := K) (xs := [.int (i : Int), .int z]) m' hT
      walk_at "go"
      refine ⟨P2, _, _, _, rfl, m2, fun st H3 m3 => ?_⟩
      walk_at "go"
      refine ⟨P2, _, _, rfl, m3, fun pb P4 H4 a b c d e4 hb a0 ab b1 d0 dc c1 m4 => ?_⟩
      have B : Bds K P4 pb a b c d := ⟨hb, a0, ab, b1, d0, dc, c1⟩
      walk_at "go"
      walk_at "newL"
      walk_at "go"
      refine ⟨_, _, st, _, _, rfl, by assumption, by decide, by decide, by assumption, fun v H5 hv m5 => ?_⟩
      rename_i P5 _ _ e5 _
      have hf : ∃ f : Int, v = .int f ∧ 0 < f ∧ f ≤ 1000000000000 := by
        simp only [List.mem_cons, List.not_mem_nil, or_false] at hv
        rcases hv with rfl | rfl | rfl <;> exact ⟨_, rfl, by decide, by decide⟩
      obtain ⟨f, rfl, f0, f1⟩ := hf
      walk_at "go"
      refine ⟨_, _, st, _, rfl, by omega, by omega, by assumption, fun l0 H6 l00 l01 m6 => ?_⟩
      have B := B.up e5
      walk_at "go"
      obtain ⟨l, hl⟩ : ∃ l, l = 1 + l0 := ⟨_, rfl⟩
      rw [← hl]
      refine ⟨_, _, pb, a, b, c, d, l, rfl, B, m6, ?_⟩
      walk_at "go"
      refine ⟨_, _, st, _, rfl, by omega, by omega, by assumption, fun k0 H7 k00 k01 m7 => ?_⟩
      walk_at "go"
      walk_at "newL"
      walk_at "go"
      refine ⟨_, _, st, _, _, rfl, by assumption, by exact Nat.succ_pos _, by show 5 ≤ 1000; decide, by assumption, fun v H8 hv m8 => ?_⟩
      rename_i P8 _ _ e8 _
      have can1 : canI a b c d l ≤ 2 ^ 200 := by
        have h1 : (l - 1) * b ≤ 1000000000000 * 1000000000000 := Int.mul_le_mul (by omega) b1 (by omega) (by decide)
        have h0 : 0 ≤ (l - 1) * b := Int.mul_nonneg (by omega) (by omega)
        have h2 : (l - 1) * b / a ≤ (l - 1) * b := Int.ediv_le_self _ h0
        have h3 : 0 ≤ (l - 1) * b / a := Int.ediv_nonneg h0 (by omega)
        have h4 : (l - 1) * b / a * c ≤ 1000000000000000000000000 * 1000000000000 := Int.mul_le_mul (by omega) c1 (by omega) (by decide)
        have h5 : canI a b c d l ≤ (l - 1) * b / a * c := Int.ediv_le_self _ (Int.mul_nonneg h3 (by omega))
        omega
      have hg : ∃ g : Int, v = .int g ∧ g ≤ 2 ^ 201 := by
        simp only [List.mem_cons, List.not_mem_nil, or_false] at hv
        rcases hv with rfl | rfl | rfl | rfl | rfl <;> exact ⟨_, rfl, by omega⟩
      obtain ⟨g, rfl, g1⟩ := hg
      have B := B.up e8
      walk_at "go"
      have hk0 : 0 < (if g > 1 then g else 1) := by split <;> omega
      have hk1 : (if g > 1 then g else 1) ≤ 2 ^ 201 := by split <;> omega
      generalize (if g > 1 then g else 1) = k at *
      have hover := over_ok a0 ab d0 dc hk0
      have hcan := can_le (a := a) (b := b) (c := c) (d := d) (k := k) (l := l) a0 (by omega) (by omega) d0
      have hS0 := spanI_pos (c := c) (k := k) (by omega : 0 < c) d0 hk0
      have hL0 := growI_pos (a := a) (b := b) a0 (by omega) hS0
      refine ⟨_, _, pb, a, b, c, d, k, l, rfl, B, m8, fun hle => ?_, fun hlt t oo P13 H13 e13 ht13 m13 => ?_⟩
      · walk_at "go"
        refine ⟨_, _, pb, a, b, c, d, k, l, B, .inl ⟨rfl, by omega, m8, ?_⟩⟩
        walk_at "go"
        refine i_ndec (fun z => absurd rfl z) (fun _ => ?_)
        walk_at "go"
        exact ⟨_, by walk_at "exch", Mem.per m8 .nil, _, _, _, _, _, _, _, _, _, rfl⟩
      · walk_at "go"
        have B13 := B.up e13
        have hyes : showsI a b c d k l [(spanI c d k, spanI c d k * c / d, growI a b (spanI c d k))] = true := by
          unfold showsI fitT withinI
          simp only [List.all_cons, List.all_nil, List.map_cons, List.map_nil, List.sum_cons, List.sum_nil, Bool.and_eq_true, decide_eq_true_eq, Bool.and_true]
          omega
        refine ⟨P13, _, pb, a, b, c, d, k, l, B13, .inr ⟨oo, t, _, _, _, rfl, by omega, ht13, by omega, by omega, by omega, hyes, m13, fun P14 H14 e14 m14 => ?_⟩⟩
        walk_at "go"
        refine i_ndec (fun _ => ?_) (fun z => nomatch z)
        walk_at "go"
        walk_at "newM"
        rename_i oc H15 m15
        have m15' := m15.sel (.s .z)
        walk_at "go"
        rename_i H16 m16
        refine ⟨_, _, pb, a, b, c, d, k, l, rfl, B13.up e14, m16, fun z => absurd z (by omega), fun _ t2 o2 P17 H17 e17 ht17 m17 => ?_⟩
        walk_at "go"
        have hS1 := spanI_le (c := c) (d := d) (k := k) dc (by omega) (by omega)
        have hL1 := growI_le (a := a) (b := b) (s := spanI c d k) ab (by omega) (by omega)
        have hG : spanI c d k * c / d ≤ 2 ^ 201 * 1000000000000 := by
          have h1 : spanI c d k * c ≤ 2 ^ 201 * 1000000000000 := Int.mul_le_mul (by omega) c1 (by omega) (by decide)
          have h2 : spanI c d k * c / d ≤ spanI c d k * c := Int.ediv_le_self _ (Int.mul_nonneg (by omega) (by omega))
          omega
        have hsw : Shw 2 2000 (dTrip [(spanI c d k, spanI c d k * c / d, growI a b (spanI c d k))]) := by
          refine (Shw.lst (n := 1) (L := 762) (N := 1) (fun d hd => ?_) (by simp)).mono (by decide) (by decide)
          rw [List.map_cons, List.map_nil, List.mem_singleton] at hd
          subst hd
          refine (Shw.tup (n := 0) (L := 251) (N := 3) (fun e he => ?_) (by simp)).mono (by decide) (by decide)
          simp only [List.mem_cons, List.not_mem_nil, or_false] at he
          rcases he with rfl | rfl | rfl
          · exact Shw.int (k := 250) (by decide) (by decide) (pow_up (by omega) (by omega))
          · exact Shw.int (k := 250) (by decide) (by decide) (pow_up (by omega) (by omega))
          · exact Shw.int (k := 250) (by decide) (by decide) (pow_up (by omega) (by omega))
        have dX : Dp K H17 (.ref o2) (dTrip [(spanI c d k, spanI c d k * c / d, growI a b (spanI c d k))]) := .lst (SqL.of m17.rd0) (Trip.cons (ex_t m17.ex ht17) .nil).dp
        have dY : Dp K H17 (.ref oc) (dTrip [(spanI c d k, spanI c d k * c / d, growI a b (spanI c d k))]) := by
          refine .lst (xs := [.ref t]) (SqL.of (m17.rd (.s (.s .z)))) (Trip.cons (ex_t (e14.trans (e17.trans m17.ex)) ht13) .nil).dp
        refine ⟨o2, oc, _, 2, 2000, 2, rfl, dX, dY, dTrip_sh _, by decide, hsw, by decide, by decide, ?_⟩
        walk_at "go"
        exact ⟨_, by walk_at "exch", Mem.per m17 .nil, _, _, _, _, _, _, _, _, _, rfl⟩
    · walk_at "go"
      exact q _
end
theorem all_mk {l : PySem.W.OpenLaw} {w : World} {K : PySem.W.Frag} {h : Heap} {mg : Str → Option Value} {fa f0 f1 f2 f3 f4 f5 f6 f7 f8 f9 f10 f11 f12 f13 : Addr} (X : K.In h) (G : h.Ns mainGlobals mg) (hfa : mg "law" = some (.ref fa))
    {od0 an0 od1 an1 od2 an2 od3 an3 od4 an4 od5 an5 od6 an6 od7 an7 od8 an8 od9 an9 od10 an10 od11 an11 od12 an12 od13 an13 : Option Addr} {sl0 sl1 sl2 sl3 sl4 sl5 sl6 sl7 sl8 sl9 sl10 sl11 sl12 sl13 : Array (Option Value)} {oc0 kV0 dc0 pm0 cd0 ct0 oc1 kV1 dc1 pm1 cd1 ct1 oc2 kV2 dc2 pm2 cd2 ct2 oc3 kV3 dc3 pm3 cd3 ct3 oc4 kV4 dc4 pm4 cd4 ct4 oc5 kV5 dc5 pm5 cd5 ct5 oc6 kV6 dc6 pm6 cd6 ct6 oc7 kV7 dc7 pm7 cd7 ct7 oc8 kV8 dc8 pm8 cd8 ct8 oc9 kV9 dc9 pm9 cd9 ct9 oc10 kV10 dc10 pm10 cd10 ct10 oc11 kV11 dc11 pm11 cd11 ct11 oc12 kV12 dc12 pm12 cd12 ct12 oc13 kV13 dc13 pm13 cd13 ct13 : Value}
    (a0 : PySem.W.nsIn K mainGlobals "least_span" = some (some (.ref f0)))
    (l0 : K.lookup f0 = some ⟨oc0, od0, .func (PySem.W.fnOf "least_span" "least_span" (defArgs s_least_span) (defBody s_least_span) (defScope s_least_span) .none kV0 dc0 pm0 an0 cd0 ct0), sl0⟩)
    (c0 : PySem.W.codeIn K cd0 "least_span" = true)
    (k0 : PySem.W.keepIn K (.ref f0) = true)
    (a1 : PySem.W.nsIn K mainGlobals "least_growth" = some (some (.ref f1)))
    (l1 : K.lookup f1 = some ⟨oc1, od1, .func (PySem.W.fnOf "least_growth" "least_growth" (defArgs s_least_growth) (defBody s_least_growth) (defScope s_least_growth) .none kV1 dc1 pm1 an1 cd1 ct1), sl1⟩)
    (c1 : PySem.W.codeIn K cd1 "least_growth" = true)
    (k1 : PySem.W.keepIn K (.ref f1) = true)
    (a2 : PySem.W.nsIn K mainGlobals "overrun" = some (some (.ref f2)))
    (l2 : K.lookup f2 = some ⟨oc2, od2, .func (PySem.W.fnOf "overrun" "overrun" (defArgs s_overrun) (defBody s_overrun) (defScope s_overrun) .none kV2 dc2 pm2 an2 cd2 ct2), sl2⟩)
    (c2 : PySem.W.codeIn K cd2 "overrun" = true)
    (k2 : PySem.W.keepIn K (.ref f2) = true)
    (a3 : PySem.W.nsIn K mainGlobals "_law_begin" = some (some (.ref f3)))
    (l3 : K.lookup f3 = some ⟨oc3, od3, .func (PySem.W.fnOf "_law_begin" "_law_begin" (defArgs s_law_begin) (defBody s_law_begin) (defScope s_law_begin) .none kV3 dc3 pm3 an3 cd3 ct3), sl3⟩)
    (c3 : PySem.W.codeIn K cd3 "_law_begin" = true)
    (k3 : PySem.W.keepIn K (.ref f3) = true)
    (a4 : PySem.W.nsIn K mainGlobals "_law_next" = some (some (.ref f4)))
    (l4 : K.lookup f4 = some ⟨oc4, od4, .func (PySem.W.fnOf "_law_next" "_law_next" (defArgs s_law_next) (defBody s_law_next) (defScope s_law_next) .none kV4 dc4 pm4 an4 cd4 ct4), sl4⟩)
    (c4 : PySem.W.codeIn K cd4 "_law_next" = true)
    (k4 : PySem.W.keepIn K (.ref f4) = true)
    (a5 : PySem.W.nsIn K mainGlobals "_law_pick" = some (some (.ref f5)))
    (l5 : K.lookup f5 = some ⟨oc5, od5, .func (PySem.W.fnOf "_law_pick" "_law_pick" (defArgs s_law_pick) (defBody s_law_pick) (defScope s_law_pick) .none kV5 dc5 pm5 an5 cd5 ct5), sl5⟩)
    (c5 : PySem.W.codeIn K cd5 "_law_pick" = true)
    (k5 : PySem.W.keepIn K (.ref f5) = true)
    (a6 : PySem.W.nsIn K mainGlobals "_law_bounds" = some (some (.ref f6)))
    (l6 : K.lookup f6 = some ⟨oc6, od6, .func (PySem.W.fnOf "_law_bounds" "_law_bounds" (defArgs s_law_bounds) (defBody s_law_bounds) (defScope s_law_bounds) .none kV6 dc6 pm6 an6 cd6 ct6), sl6⟩)
    (c6 : PySem.W.codeIn K cd6 "_law_bounds" = true)
    (k6 : PySem.W.keepIn K (.ref f6) = true)
    (a7 : PySem.W.nsIn K mainGlobals "_law_least" = some (some (.ref f7)))
    (l7 : K.lookup f7 = some ⟨oc7, od7, .func (PySem.W.fnOf "_law_least" "_law_least" (defArgs s_law_least) (defBody s_law_least) (defScope s_law_least) .none kV7 dc7 pm7 an7 cd7 ct7), sl7⟩)
    (c7 : PySem.W.codeIn K cd7 "_law_least" = true)
    (k7 : PySem.W.keepIn K (.ref f7) = true)
    (a8 : PySem.W.nsIn K mainGlobals "_law_most" = some (some (.ref f8)))
    (l8 : K.lookup f8 = some ⟨oc8, od8, .func (PySem.W.fnOf "_law_most" "_law_most" (defArgs s_law_most) (defBody s_law_most) (defScope s_law_most) .none kV8 dc8 pm8 an8 cd8 ct8), sl8⟩)
    (c8 : PySem.W.codeIn K cd8 "_law_most" = true)
    (k8 : PySem.W.keepIn K (.ref f8) = true)
    (a9 : PySem.W.nsIn K mainGlobals "_law_can" = some (some (.ref f9)))
    (l9 : K.lookup f9 = some ⟨oc9, od9, .func (PySem.W.fnOf "_law_can" "_law_can" (defArgs s_law_can) (defBody s_law_can) (defScope s_law_can) .none kV9 dc9 pm9 an9 cd9 ct9), sl9⟩)
    (c9 : PySem.W.codeIn K cd9 "_law_can" = true)
    (k9 : PySem.W.keepIn K (.ref f9) = true)
    (a10 : PySem.W.nsIn K mainGlobals "_law_fits" = some (some (.ref f10)))
    (l10 : K.lookup f10 = some ⟨oc10, od10, .func (PySem.W.fnOf "_law_fits" "_law_fits" (defArgs s_law_fits) (defBody s_law_fits) (defScope s_law_fits) .none kV10 dc10 pm10 an10 cd10 ct10), sl10⟩)
    (c10 : PySem.W.codeIn K cd10 "_law_fits" = true)
    (k10 : PySem.W.keepIn K (.ref f10) = true)
    (a11 : PySem.W.nsIn K mainGlobals "_law_same" = some (some (.ref f11)))
    (l11 : K.lookup f11 = some ⟨oc11, od11, .func (PySem.W.fnOf "_law_same" "_law_same" (defArgs s_law_same) (defBody s_law_same) (defScope s_law_same) .none kV11 dc11 pm11 an11 cd11 ct11), sl11⟩)
    (c11 : PySem.W.codeIn K cd11 "_law_same" = true)
    (k11 : PySem.W.keepIn K (.ref f11) = true)
    (a12 : PySem.W.nsIn K mainGlobals "_law_right" = some (some (.ref f12)))
    (l12 : K.lookup f12 = some ⟨oc12, od12, .func (PySem.W.fnOf "_law_right" "_law_right" (defArgs s_law_right) (defBody s_law_right) (defScope s_law_right) .none kV12 dc12 pm12 an12 cd12 ct12), sl12⟩)
    (c12 : PySem.W.codeIn K cd12 "_law_right" = true)
    (k12 : PySem.W.keepIn K (.ref f12) = true)
    (a13 : PySem.W.nsIn K mainGlobals "law" = some (some (.ref f13)))
    (l13 : K.lookup f13 = some ⟨oc13, od13, .func (PySem.W.fnOf "law" "law" (defArgs s_law) (defBody s_law) (defScope s_law) .none kV13 dc13 pm13 an13 cd13 ct13), sl13⟩)
    (c13 : PySem.W.codeIn K cd13 "law" = true)
    (k13 : PySem.W.keepIn K (.ref f13) = true)
    (z_max : PySem.W.nsIn K mainGlobals "max" = some none)
    (z_abs : PySem.W.nsIn K mainGlobals "abs" = some none)
    (z_len : PySem.W.nsIn K mainGlobals "len" = some none)
    (z_sum : PySem.W.nsIn K mainGlobals "sum" = some none)
    (z_str : PySem.W.nsIn K mainGlobals "str" = some none)
    (z_isinstance : PySem.W.nsIn K mainGlobals "isinstance" = some none)
    (z_list : PySem.W.nsIn K mainGlobals "list" = some none)
    (z_tuple : PySem.W.nsIn K mainGlobals "tuple" = some none)
    (z_bool : PySem.W.nsIn K mainGlobals "bool" = some none)
    (z_int : PySem.W.nsIn K mainGlobals "int" = some none)
    (z_enumerate : PySem.W.nsIn K mainGlobals "enumerate" = some none)
    : ∃ fd : FuncData, (∀ (s : Shared) (v : Value), BindsTo s fd ⟨[v], []⟩ [("_law_script", v)]) ∧ ∀ base : Heap, K.In base → base.Ns mainGlobals mg → FnOkG l.prog w K mg base CX0 4 fa fd ["_law_script"] (spLaw K) := by
  have e := hfa.symm.trans (PySem.W.mg_of X G a13)
  cases e
  have F0 := fun_mk (st := s_least_span) l0 c0 k0
  have b0 := F0.binds (ps := ["bounds", "kept"]) fun _ _ _ _ _ _ us hl => match us, hl with | [_, _], _ => rfl
  have F1 := fun_mk (st := s_least_growth) l1 c1 k1
  have b1 := F1.binds (ps := ["bounds", "s"]) fun _ _ _ _ _ _ us hl => match us, hl with | [_, _], _ => rfl
  have F2 := fun_mk (st := s_overrun) l2 c2 k2
  have b2 := F2.binds (ps := ["bounds", "kept", "lease"]) fun _ _ _ _ _ _ us hl => match us, hl with | [_, _, _], _ => rfl
  have F3 := fun_mk (st := s_law_begin) l3 c3 k3
  have b3 := F3.binds (ps := ["_law_cell", "_law_k"]) fun _ _ _ _ _ _ us hl => match us, hl with | [_, _], _ => rfl
  have F4 := fun_mk (st := s_law_next) l4 c4 k4
  have b4 := F4.binds (ps := ["_law_state", "_law_many"]) fun _ _ _ _ _ _ us hl => match us, hl with | [_, _], _ => rfl
  have F5 := fun_mk (st := s_law_pick) l5 c5 k5
  have b5 := F5.binds (ps := ["_law_state", "_law_some"]) fun _ _ _ _ _ _ us hl => match us, hl with | [_, _], _ => rfl
  have F6 := fun_mk (st := s_law_bounds) l6 c6 k6
  have b6 := F6.binds (ps := ["_law_state"]) fun _ _ _ _ _ _ us hl => match us, hl with | [_], _ => rfl
  have F7 := fun_mk (st := s_law_least) l7 c7 k7
  have b7 := F7.binds (ps := ["_law_bounds_here", "_law_s"]) fun _ _ _ _ _ _ us hl => match us, hl with | [_, _], _ => rfl
  have F8 := fun_mk (st := s_law_most) l8 c8 k8
  have b8 := F8.binds (ps := ["_law_bounds_here", "_law_s"]) fun _ _ _ _ _ _ us hl => match us, hl with | [_, _], _ => rfl
  have F9 := fun_mk (st := s_law_can) l9 c9 k9
  have b9 := F9.binds (ps := ["_law_bounds_here", "_law_lease"]) fun _ _ _ _ _ _ us hl => match us, hl with | [_, _], _ => rfl
  have F10 := fun_mk (st := s_law_fits) l10 c10 k10
  have b10 := F10.binds (ps := ["_law_bounds_here", "_law_kept", "_law_lease", "_law_pieces"]) fun _ _ _ _ _ _ us hl => match us, hl with | [_, _, _, _], _ => rfl
  have F11 := fun_mk (st := s_law_same) l11 c11 k11
  have b11 := F11.binds (ps := ["_law_found", "_law_due"]) fun _ _ _ _ _ _ us hl => match us, hl with | [_, _], _ => rfl
  have F12 := fun_mk (st := s_law_right) l12 c12 k12
  have b12 := F12.binds (ps := ["_law_found", "_law_bounds_here", "_law_kept", "_law_lease"]) fun _ _ _ _ _ _ us hl => match us, hl with | [_, _, _, _], _ => rfl
  have F13 := fun_mk (st := s_law) l13 c13 k13
  have b13 := F13.binds (ps := ["_law_script"]) fun _ _ _ _ _ _ us hl => match us, hl with | [_], _ => rfl
  have T : Txt K mg (fun n => [f0, f1, f2, f3, f4, f5, f6, f7, f8, f9, f10, f11, f12, fa].getD n 0) (fun n => [].getD n 0) (fun n => [(PySem.W.fnOf "least_span" "least_span" (defArgs s_least_span) (defBody s_least_span) (defScope s_least_span) .none kV0 dc0 pm0 an0 cd0 ct0), (PySem.W.fnOf "least_growth" "least_growth" (defArgs s_least_growth) (defBody s_least_growth) (defScope s_least_growth) .none kV1 dc1 pm1 an1 cd1 ct1), (PySem.W.fnOf "overrun" "overrun" (defArgs s_overrun) (defBody s_overrun) (defScope s_overrun) .none kV2 dc2 pm2 an2 cd2 ct2), (PySem.W.fnOf "_law_begin" "_law_begin" (defArgs s_law_begin) (defBody s_law_begin) (defScope s_law_begin) .none kV3 dc3 pm3 an3 cd3 ct3), (PySem.W.fnOf "_law_next" "_law_next" (defArgs s_law_next) (defBody s_law_next) (defScope s_law_next) .none kV4 dc4 pm4 an4 cd4 ct4), (PySem.W.fnOf "_law_pick" "_law_pick" (defArgs s_law_pick) (defBody s_law_pick) (defScope s_law_pick) .none kV5 dc5 pm5 an5 cd5 ct5), (PySem.W.fnOf "_law_bounds" "_law_bounds" (defArgs s_law_bounds) (defBody s_law_bounds) (defScope s_law_bounds) .none kV6 dc6 pm6 an6 cd6 ct6), (PySem.W.fnOf "_law_least" "_law_least" (defArgs s_law_least) (defBody s_law_least) (defScope s_law_least) .none kV7 dc7 pm7 an7 cd7 ct7), (PySem.W.fnOf "_law_most" "_law_most" (defArgs s_law_most) (defBody s_law_most) (defScope s_law_most) .none kV8 dc8 pm8 an8 cd8 ct8), (PySem.W.fnOf "_law_can" "_law_can" (defArgs s_law_can) (defBody s_law_can) (defScope s_law_can) .none kV9 dc9 pm9 an9 cd9 ct9), (PySem.W.fnOf "_law_fits" "_law_fits" (defArgs s_law_fits) (defBody s_law_fits) (defScope s_law_fits) .none kV10 dc10 pm10 an10 cd10 ct10), (PySem.W.fnOf "_law_same" "_law_same" (defArgs s_law_same) (defBody s_law_same) (defScope s_law_same) .none kV11 dc11 pm11 an11 cd11 ct11), (PySem.W.fnOf "_law_right" "_law_right" (defArgs s_law_right) (defBody s_law_right) (defScope s_law_right) .none kV12 dc12 pm12 an12 cd12 ct12), (PySem.W.fnOf "law" "law" (defArgs s_law) (defBody s_law) (defScope s_law) .none kV13 dc13 pm13 an13 cd13 ct13)].getD n (PySem.W.fnOf "least_span" "least_span" (defArgs s_least_span) (defBody s_least_span) (defScope s_least_span) .none kV0 dc0 pm0 an0 cd0 ct0)) := {
    F0 := F0,
    b0 := b0,
    m0 := PySem.W.mg_of X G a0,
    F1 := F1,
    b1 := b1,
    m1 := PySem.W.mg_of X G a1,
    F2 := F2,
    b2 := b2,
    m2 := PySem.W.mg_of X G a2,
    F3 := F3,
    b3 := b3,
    m3 := PySem.W.mg_of X G a3,
    F4 := F4,
    b4 := b4,
    m4 := PySem.W.mg_of X G a4,
    F5 := F5,
    b5 := b5,
    m5 := PySem.W.mg_of X G a5,
    F6 := F6,
    b6 := b6,
    m6 := PySem.W.mg_of X G a6,
    F7 := F7,
    b7 := b7,
    m7 := PySem.W.mg_of X G a7,
    F8 := F8,
    b8 := b8,
    m8 := PySem.W.mg_of X G a8,
    F9 := F9,
    b9 := b9,
    m9 := PySem.W.mg_of X G a9,
    F10 := F10,
    b10 := b10,
    m10 := PySem.W.mg_of X G a10,
    F11 := F11,
    b11 := b11,
    m11 := PySem.W.mg_of X G a11,
    F12 := F12,
    b12 := b12,
    m12 := PySem.W.mg_of X G a12,
    F13 := F13,
    b13 := b13,
    m13 := PySem.W.mg_of X G a13,
    g_max := PySem.W.mg_none_of X G z_max,
    g_abs := PySem.W.mg_none_of X G z_abs,
    g_len := PySem.W.mg_none_of X G z_len,
    g_sum := PySem.W.mg_none_of X G z_sum,
    g_str := PySem.W.mg_none_of X G z_str,
    g_isinstance := PySem.W.mg_none_of X G z_isinstance,
    g_list := PySem.W.mg_none_of X G z_list,
    g_tuple := PySem.W.mg_none_of X G z_tuple,
    g_bool := PySem.W.mg_none_of X G z_bool,
    g_int := PySem.W.mg_none_of X G z_int,
    g_enumerate := PySem.W.mg_none_of X G z_enumerate }
  exact ⟨PySem.W.fnOf "law" "law" (defArgs s_law) (defBody s_law) (defScope s_law) .none kV13 dc13 pm13 an13 cd13 ct13, fun s v => .of_eq rfl, fun base _ _ => ok_law T⟩
theorem walk {l : PySem.W.OpenLaw} {q : Program} {loose : List Str} {XP : (Str → Option Value) → Heap → Prop} {YP : World → Heap → Prop} {d : DefRec} {K : Params → PySem.W.Frag} (hn : l.most = some 63) (hdf : d.params.defaults = [])
    (hY : ∀ (w : World) (h : Heap), YP w h → (K w.params).In h)
    (F : ∀ (w : World) (mg : Str → Option Value) (fa : Addr) (h : Heap), (K w.params).In h → h.Ns mainGlobals mg → mg d.name = some (.ref fa) →
      ∃ fd : FuncData, (∀ (s : Shared) (u : Value), BindsTo s fd ⟨[u], []⟩ [("_law_script", u)]) ∧ ∀ base : Heap, (K w.params).In base → base.Ns mainGlobals mg → FnOkG l.prog w (K w.params) mg base CX0 4 fa fd ["_law_script"] (spLaw (K w.params))) :
    PySem.W.WalkO q loose XP YP l.row.toRowW d [] (fun f vs => PySem.call f vs) :=
  walkG (n := 63) (k := 4) (x := "_law_script") (sp := fun w => spLaw (K w.params)) hn (by decide) hdf ⟨rfl, by decide, by decide⟩ hY F (fun _ _ a ns hl hS => ⟨a, ns, rfl, hS, hl, fun _ => rfl⟩)
end Fs
open PySem PySem.W PyProof.Rows in
set_option maxRecDepth 100000 in
set_option maxHeartbeats 0 in
theorem PySem.Challenge.cw_farshelf_k22_overrun_holds : PySem.Challenge.rw_farshelf_k22_overrun.Holds := by
  w_on; o_law; k_head; (case hw => w_witness2)
  k_fill
  refine Fs.walk (l := PySem.Challenge.rw_farshelf_k22_overrun) rfl rfl (fun w h Y => PySem.W.kIn_of Y) ?F
  case F =>
    intro w mg fa h KX G hmg
    refine' Fs.all_mk KX G hmg ?a0 ?l0 ?c0 ?k0 ?a1 ?l1 ?c1 ?k1 ?a2 ?l2 ?c2 ?k2 ?a3 ?l3 ?c3 ?k3 ?a4 ?l4 ?c4 ?k4 ?a5 ?l5 ?c5 ?k5 ?a6 ?l6 ?c6 ?k6 ?a7 ?l7 ?c7 ?k7 ?a8 ?l8 ?c8 ?k8 ?a9 ?l9 ?c9 ?k9 ?a10 ?l10 ?c10 ?k10 ?a11 ?l11 ?c11 ?k11 ?a12 ?l12 ?c12 ?k12 ?a13 ?l13 ?c13 ?k13 ?z_max ?z_abs ?z_len ?z_sum ?z_str ?z_isinstance ?z_list ?z_tuple ?z_bool ?z_int ?z_enumerate
    (case a0 => k_is)
    (case l0 => k_is)
    (case c0 => k_is)
    (case k0 => k_is)
    (case a1 => k_is)
    (case l1 => k_is)
    (case c1 => k_is)
    (case k1 => k_is)
    (case a2 => k_is)
    (case l2 => k_is)
    (case c2 => k_is)
    (case k2 => k_is)
    (case a3 => k_is)
    (case l3 => k_is)
    (case c3 => k_is)
    (case k3 => k_is)
    (case a4 => k_is)
    (case l4 => k_is)
    (case c4 => k_is)
    (case k4 => k_is)
    (case a5 => k_is)
    (case l5 => k_is)
    (case c5 => k_is)
    (case k5 => k_is)
    (case a6 => k_is)
    (case l6 => k_is)
    (case c6 => k_is)
    (case k6 => k_is)
    (case a7 => k_is)
    (case l7 => k_is)
    (case c7 => k_is)
    (case k7 => k_is)
    (case a8 => k_is)
    (case l8 => k_is)
    (case c8 => k_is)
    (case k8 => k_is)
    (case a9 => k_is)
    (case l9 => k_is)
    (case c9 => k_is)
    (case k9 => k_is)
    (case a10 => k_is)
    (case l10 => k_is)
    (case c10 => k_is)
    (case k10 => k_is)
    (case a11 => k_is)
    (case l11 => k_is)
    (case c11 => k_is)
    (case k11 => k_is)
    (case a12 => k_is)
    (case l12 => k_is)
    (case c12 => k_is)
    (case k12 => k_is)
    (case a13 => k_is)
    (case l13 => k_is)
    (case c13 => k_is)
    (case k13 => k_is)
    (case z_max => k_is)
    (case z_abs => k_is)
    (case z_len => k_is)
    (case z_sum => k_is)
    (case z_str => k_is)
    (case z_isinstance => k_is)
    (case z_list => k_is)
    (case z_tuple => k_is)
    (case z_bool => k_is)
    (case z_int => k_is)
    (case z_enumerate => k_is)

